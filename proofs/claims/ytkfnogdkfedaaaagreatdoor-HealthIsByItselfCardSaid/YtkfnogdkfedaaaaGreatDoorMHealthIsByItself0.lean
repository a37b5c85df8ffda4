/- Several texts of one proof in one file, one after another, each with its own head: the machine's side of a law and the plain side; conditions: those of each theorem. -/
import Derived.Calls
import Derived.Laws.Sem
import Derived.Laws.World
import Derived.Laws.Entries
import Derived.Laws.Cells
import Derived.Laws.IdiomCopy
import Derived.Laws.Append
import Derived.Laws.AppendOwn
import Derived.Laws.Strings
import Derived.Laws.Slices
import Derived.Laws.Pointers
import Derived.Laws.Tables
import Derived.Great.BuildSlice
import Derived.LaidEql
import Derived.Laws.Cover3
import Derived.Great.FillDense
import Derived.IntWalk
import Derived.Laws.Externs
import Derived.Lib.UnsafeStr
import Derived.Lib.Bytealg
import Derived.Lib.Builder
import Derived.Laws.IdiomStrings
import Derived.KernelRfl
import Derived.Laws.RangeAny
import Derived.Lib.OthersKept
import Derived.Laws.StructEq
set_option linter.unusedVariables false
set_option linter.unusedSimpArgs false
/- An abstract machine for Go functions, first part: values, memory, operations as plain functions. -/
namespace Go.Ag
open Go
set_option linter.unusedVariables false
set_option linter.unusedSimpArgs false

/-- Pure values: no reference to memory that may be written. -/
inductive PV where
  | bool (b : Bool)
  | int (k : IntKind) (n : Int)
  | str (s : List UInt8)
  | sl (l : List PV)
  | agg (cs : List PV)
  | tup (vs : List PV)
  | ro (cs : List PV)
  | nilp | nilm | nilf | nili | ab
  | fn (f : FuncId) (first captured : List PV)
  | iface (t : TypeId) (v : PV)
  | top
  deriving Inhabited

/-- Values of a frame. -/
inductive RV where
  | p (v : PV)
  | nsl (nil : Bool)
  | own (l : List PV) (t : Nat)
  | ptr (b off : Nat)
  | rs (b off len z : Nat)
  | od (l : List PV) (t : Nat)
  | up
  | mp (b : Nat)
  | la (d off : Nat)
  | agg (cs : List RV)
  | tup (vs : List RV)
  | fn (f : FuncId) (first captured : List RV)
  | iface (t : TypeId) (v : RV)
  | top
  deriving Inhabited

def PV.cells : PV → List PV
  | .agg cs => cs
  | v => [v]
def PV.isCell : PV → Bool
  | .agg _ | .tup _ | .top => false
  | _ => true
def flat (l : List PV) : List PV := l.flatMap PV.cells

/-- What cannot be an address of a local variable. -/
def RV.fc : RV → Bool
  | .la _ _ => false
  | _ => true
def RV.isCell : RV → Bool
  | .p v => v.isCell
  | .agg _ | .tup _ | .top | .la _ _ => false
  | _ => true
def RV.cells : RV → List RV
  | .p (.agg cs) => cs.map .p
  | .agg cs => cs
  | v => [v]

def mapO {α β : Type} (f : α → Option β) : List α → Option (List β)
  | [] => some []
  | x :: xs => match f x, mapO f xs with
    | some y, some ys => some (y :: ys)
    | _, _ => none
/-- The pure value of a value, if it has one (up to a depth). -/
def RV.toPVn : Nat → RV → Option PV
  | _, .p v => some v
  | _, .nsl _ => some (.sl [])
  | _, .own l _ => some (.sl l)
  | n + 1, .agg cs => (mapO (RV.toPVn n) cs).map .agg
  | n + 1, .tup cs => (mapO (RV.toPVn n) cs).map .tup
  | n + 1, .fn f a b => match mapO (RV.toPVn n) a, mapO (RV.toPVn n) b with
    | some x, some y => some (.fn f x y)
    | _, _ => none
  | n + 1, .iface t v => (RV.toPVn n v).map (.iface t)
  | _, _ => none
def RV.toPV (r : RV) : Option PV := r.toPVn 6
def RV.toPVs (l : List RV) : Option (List PV) := mapO RV.toPV l

/-- A row of cells (its type's number twice; one more if its end is not known), a walk over a string, or a row that nobody may use any more. -/
inductive Blk where
  | cells (ty : Nat) (cs : List RV)
  | iter (s : List UInt8) (pos : Nat)
  | dead
  deriving Inhabited

structure Mem where
  loc : List (Nat × List RV)
  mem : List Blk
  toks : List (Nat × Nat × Nat)
  deriving Inhabited

abbrev Env := List (Nat × RV)
def Env.get : Env → Nat → RV
  | [], _ => .top
  | (k, v) :: r, t => match Nat.beq k t with
    | true => v
    | false => Env.get r t
def Env.set : Env → Nat → RV → Env
  | [], t, v => [(t, v)]
  | (k, u) :: r, t, v => match Nat.beq k t with
    | true => (t, v) :: r
    | false => (k, u) :: Env.set r t v
theorem Env.get_nil (t : Nat) : Env.get [] t = .top := rfl
theorem Env.get_cons (k : Nat) (v : RV) (r : Env) (t : Nat) : Env.get ((k, v) :: r) t = if k = t then v else Env.get r t := by
  simp only [Env.get]
  by_cases h : k = t
  · subst h; simp
  · have : Nat.beq k t = false := by cases hb : Nat.beq k t with | false => rfl | true => exact absurd (Nat.eq_of_beq_eq_true hb) h
    rw [this, if_neg h]
theorem Env.set_nil (t : Nat) (v : RV) : Env.set [] t v = [(t, v)] := rfl
theorem Env.set_cons (k : Nat) (u : RV) (r : Env) (t : Nat) (v : RV) : Env.set ((k, u) :: r) t v = if k = t then (t, v) :: r else (k, u) :: Env.set r t v := by
  simp only [Env.set]
  by_cases h : k = t
  · subst h; simp
  · have : Nat.beq k t = false := by cases hb : Nat.beq k t with | false => rfl | true => exact absurd (Nat.eq_of_beq_eq_true hb) h
    rw [this, if_neg h]
def Env.keep (e : Env) (l : List Nat) : Env := l.map fun t => (t, e.get t)
/-- Addresses in the local variable d are forgotten. -/
def Env.strike (e : Env) (d : Nat) : Env := e.map fun (k, v) => (k, match v with | .la d' _ => if d' = d then .top else v | _ => v)

def locGet : List (Nat × List RV) → Nat → Option (List RV)
  | [], _ => none
  | (k, v) :: r, t => match Nat.beq k t with
    | true => some v
    | false => locGet r t
def locSet : List (Nat × List RV) → Nat → List RV → List (Nat × List RV)
  | [], t, v => [(t, v)]
  | (k, u) :: r, t, v => match Nat.beq k t with
    | true => (t, v) :: r
    | false => (k, u) :: locSet r t v
theorem locGet_nil (t : Nat) : locGet [] t = none := rfl
theorem locGet_cons (k : Nat) (v : List RV) (r : List (Nat × List RV)) (t : Nat) : locGet ((k, v) :: r) t = if k = t then some v else locGet r t := by
  simp only [locGet]
  by_cases h : k = t
  · subst h; simp
  · have : Nat.beq k t = false := by cases hb : Nat.beq k t with | false => rfl | true => exact absurd (Nat.eq_of_beq_eq_true hb) h
    rw [this, if_neg h]
theorem locSet_nil (t : Nat) (v : List RV) : locSet [] t v = [(t, v)] := rfl
theorem locSet_cons (k : Nat) (u : List RV) (r : List (Nat × List RV)) (t : Nat) (v : List RV) : locSet ((k, u) :: r) t v = if k = t then (t, v) :: r else (k, u) :: locSet r t v := by
  simp only [locSet]
  by_cases h : k = t
  · subst h; simp
  · have : Nat.beq k t = false := by cases hb : Nat.beq k t with | false => rfl | true => exact absurd (Nat.eq_of_beq_eq_true hb) h
    rw [this, if_neg h]

/-- The list with ys laid over it from place n on. -/
def over {α : Type} (xs : List α) (n : Nat) (ys : List α) : List α := xs.take n ++ ys ++ xs.drop (n + ys.length)
/-- n elements from place i on, if there are as many. -/
def sub {α : Type} (xs : List α) (i n : Nat) : Option (List α) := if i + n ≤ xs.length then some ((xs.drop i).take n) else none

/-- An operand: a slot or a constant. -/
inductive Xp where
  | r (t : Nat)
  | k (v : RV)
  deriving Inhabited
def Xp.ev (e : Env) : Xp → RV
  | .r t => e.get t
  | .k v => v

/-- A constant of the model as a value of ours. -/
def ofValue : Nat → Value → RV
  | _, .bool b => .p (.bool b)
  | _, .int k n => .p (.int k n)
  | _, .string s => .p (.str s.data.toList)
  | _, .slice a 0 0 => .nsl a.isNone
  | _, .pointer none => .p .nilp
  | _, .map none => .p .nilm
  | _, .nilFunc => .p .nilf
  | _, .nilIface => .p .nili
  | n + 1, .agg cs => .agg (cs.toList.map (ofValue n))
  | _, _ => .top

end Go.Ag
/- An abstract machine for Go functions, second part: how values and memory of ours stand for the model's. -/
namespace Go.Ag
open Go
set_option linter.unusedVariables false
set_option linter.unusedSimpArgs false

abbrev Cells := Nat → Nat → Prop
inductive Owner where
  | mem (b : Nat)
  | tok (t : Nat)
  | loc (d : Nat)
abbrev Ow := Nat → Option Owner

/-- A cell that holds u and that nobody writes. -/
def okc (F : Cells) (w : World) (β o : Nat) (u : Value) : Prop := w.cell? ⟨β, o, none⟩ = some u ∧ ¬ F β o

inductive Rep (F : Cells) (w : World) : PV → Value → Prop where
  | bool (b) : Rep F w (.bool b) (.bool b)
  | int (k n) : Rep F w (.int k n) (.int k n)
  | str (s) : Rep F w (.str s) (.string ⟨⟨s⟩⟩)
  | sl (l : List PV) (a : Option Addr) (cap esz : Nat) (u : Nat → Value) (hz : esz ≠ 0) (hcap : l.length ≤ cap)
      (he : ∀ x ∈ l, x.cells.length = esz)
      (ha : l = [] ∨ ∃ β o, a = some ⟨β, o, none⟩ ∧ ∀ k, k < (flat l).length → okc F w β (o + k) (u k))
      (hu : ∀ (k : Nat) x, (flat l)[k]? = some x → Rep F w x (u k)) : Rep F w (.sl l) (.slice a l.length cap)
  | agg (cs : List PV) (vs : Array Value) (hl : vs.size = cs.length) (h : ∀ (k : Nat) x v, cs[k]? = some x → vs[k]? = some v → Rep F w x v) : Rep F w (.agg cs) (.agg vs)
  | tup (cs : List PV) (vs : Array Value) (hl : vs.size = cs.length) (h : ∀ (k : Nat) x v, cs[k]? = some x → vs[k]? = some v → Rep F w x v) : Rep F w (.tup cs) (.tuple vs)
  | ro (cs : List PV) (β o : Nat) (u : Nat → Value) (hc : ∀ k, k < cs.length → okc F w β (o + k) (u k))
      (hu : ∀ (k : Nat) x, cs[k]? = some x → Rep F w x (u k)) : Rep F w (.ro cs) (.pointer (some ⟨β, o, none⟩))
  | nilp : Rep F w .nilp (.pointer none)
  | nilm : Rep F w .nilm (.map none)
  | nilf : Rep F w .nilf .nilFunc
  | nili : Rep F w .nili .nilIface
  | ab (b) : Rep F w .ab (.bool b)
  | fn (f) (xs ys : List PV) (vs us : Array Value) (hv : vs.size = xs.length) (hu : us.size = ys.length)
      (h : ∀ (k : Nat) x v, xs[k]? = some x → vs[k]? = some v → Rep F w x v) (h' : ∀ (k : Nat) x v, ys[k]? = some x → us[k]? = some v → Rep F w x v) : Rep F w (.fn f xs ys) (.func (.func f) vs us)
  | iface (t) (x v) (h : Rep F w x v) : Rep F w (.iface t x) (.iface t v)
  | top (v) : Rep F w .top v

/-- Cells that nobody writes stay, and nobody comes to write them. -/
def St (F : Cells) (w : World) (F' : Cells) (w' : World) : Prop :=
  ∀ β o u, w.cell? ⟨β, o, none⟩ = some u → ¬ F β o → w'.cell? ⟨β, o, none⟩ = some u ∧ ¬ F' β o

theorem St.refl (F w) : St F w F w := fun _ _ _ h k => ⟨h, k⟩
theorem St.trans {F w F' w' F'' w''} (h : St F w F' w') (k : St F' w' F'' w'') : St F w F'' w'' :=
  fun β o u a b => let ⟨c, d⟩ := h β o u a b; k β o u c d
theorem okc.mono {F w F' w' β o u} (h : okc F w β o u) (k : St F w F' w') : okc F' w' β o u := k _ _ _ h.1 h.2

theorem Rep.mono {F w F' w'} (k : St F w F' w') {x v} (h : Rep F w x v) : Rep F' w' x v := by
  induction h with
  | bool | int | str | nilp | nilm | nilf | nili | ab | top => constructor
  | sl l a cap esz u hz hcap he ha hu ih =>
    refine .sl l a cap esz u hz hcap he ?_ ih
    rcases ha with h | ⟨β, o, h, hc⟩
    · exact .inl h
    · exact .inr ⟨β, o, h, fun i hi => (hc i hi).mono k⟩
  | agg cs vs hl h ih => exact .agg cs vs hl ih
  | tup cs vs hl h ih => exact .tup cs vs hl ih
  | ro cs β o u hc hu ih => exact .ro cs β o u (fun i hi => (hc i hi).mono k) ih
  | fn f xs ys vs us hv hu h h' ih ih' => exact .fn f xs ys vs us hv hu ih ih'
  | iface t x v h ih => exact .iface t x v ih

/-- A block that nobody may use any more: a token that is none bears its number. -/
def Dead (T : List (Nat × Nat × Nat)) (b : Nat) : Prop := (b, 0, 0) ∈ T

/-- A first-class value of a frame. -/
inductive FRep (F : Cells) (w : World) (ow : Ow) (T : List (Nat × Nat × Nat)) : RV → Value → Prop where
  | p {x v} (h : Rep F w x v) : FRep F w ow T (.p x) v
  | nsl (b a) (h : b = true → a = none) : FRep F w ow T (.nsl b) (.slice a 0 0)
  | own (l t v) (ht : t < T.length) (h : Rep F w (.sl l) v)
      (h' : ∀ e z, T[t]? = some (e, z) → l.length ≤ e ∧ (∀ x ∈ l, x.cells.length = z.1) ∧ (e = l.length →
        ∃ β cap, v = .slice (some ⟨β, 0, none⟩) l.length cap ∧ ow β = some (.tok t) ∧ w.shape? β = some (z.2, cap * z.1))) : FRep F w ow T (.own l t) v
  | ptr (b off β) (h : Dead T b ∨ ow β = some (.mem b)) : FRep F w ow T (.ptr b off) (.pointer (some ⟨β, off, none⟩))
  | rs (b off len z β cap) (h : Dead T b ∨ (ow β = some (.mem b) ∧ ∃ ty, w.shape? β = some (ty, off + cap * z))) (hc : len ≤ cap) : FRep F w ow T (.rs b off len z) (.slice (some ⟨β, off, none⟩) len cap)
  | mp (b β) (h : Dead T b ∨ ow β = some (.mem b)) : FRep F w ow T (.mp b) (.map (some β))
  | od (l t a cap) (h : FRep F w ow T (.own l t) (.slice (some a) l.length cap)) (hc : cap ≠ 0) : FRep F w ow T (.od l t) (.pointer (some a))
  | up (p) : FRep F w ow T .up (.pointer p)
  | agg (cs : List RV) (vs : Array Value) (hl : vs.size = cs.length) (h : ∀ (k : Nat) x v, cs[k]? = some x → vs[k]? = some v → FRep F w ow T x v) : FRep F w ow T (.agg cs) (.agg vs)
  | tup (cs : List RV) (vs : Array Value) (hl : vs.size = cs.length) (h : ∀ (k : Nat) x v, cs[k]? = some x → vs[k]? = some v → FRep F w ow T x v) : FRep F w ow T (.tup cs) (.tuple vs)
  | fn (f) (xs ys : List RV) (vs us : Array Value) (hv : vs.size = xs.length) (hu : us.size = ys.length)
      (h : ∀ (k : Nat) x v, xs[k]? = some x → vs[k]? = some v → FRep F w ow T x v) (h' : ∀ (k : Nat) x v, ys[k]? = some x → us[k]? = some v → FRep F w ow T x v) : FRep F w ow T (.fn f xs ys) (.func (.func f) vs us)
  | iface (t) (x v) (h : FRep F w ow T x v) : FRep F w ow T (.iface t x) (.iface t v)
  | top (v) : FRep F w ow T .top v

/-- A value of a frame: it may be the address in a variable of the frame's own. -/
def RRep (F : Cells) (w : World) (ow : Ow) (T : List (Nat × Nat × Nat)) (r : RV) (v : Value) : Prop :=
  (∃ d off β, r = .la d off ∧ ow β = some (.loc d) ∧ v = .pointer (some ⟨β, off, none⟩)) ∨ FRep F w ow T r v

/-- What the frame and those that it was handed memory by may write. -/
def Mut (ow : Ow) (T : List (Nat × Nat × Nat)) : Cells := fun β o =>
  match ow β with
  | none => False
  | some (.mem _) => True
  | some (.loc _) => True
  | some (.tok t) => ∃ e z, T[t]? = some (e, z) ∧ e * z.1 ≤ o
def FX (X : Cells) (ow : Ow) (T : List (Nat × Nat × Nat)) : Cells := fun β o => X β o ∨ Mut ow T β o

/-- A row of memory that stands for these cells. -/
def RowRep (F : Cells) (w : World) (ow : Ow) (T : List (Nat × Nat × Nat)) (β : Nat) (cs : List RV) : Prop :=
  ∃ vs el fr, w.heap[β]? = some (.cells vs el fr) ∧ (∀ o, o < vs.size → ¬ (fr.1 ≤ o ∧ o < fr.2)) ∧ cs.length ≤ vs.size ∧
    ∀ (k : Nat) x v, cs[k]? = some x → vs[k]? = some v → FRep F w ow T x v
/-- .. of a known type. -/
def RowRepT (F : Cells) (w : World) (ow : Ow) (T : List (Nat × Nat × Nat)) (β ty : Nat) (cs : List RV) : Prop :=
  ∃ vs fr, w.heap[β]? = some (.cells vs (ty / 2) fr) ∧ (∀ o, o < vs.size → ¬ (fr.1 ≤ o ∧ o < fr.2)) ∧ (cs.length ≤ vs.size ∧ (ty % 2 = 0 → cs.length = vs.size)) ∧
    ∀ (k : Nat) x v, cs[k]? = some x → vs[k]? = some v → FRep F w ow T x v
theorem RowRepT.row {F w ow T β ty cs} (h : RowRepT F w ow T β ty cs) : RowRep F w ow T β cs := by
  obtain ⟨vs, fr, h1, h2, h3, h4⟩ := h
  exact ⟨vs, ty / 2, fr, h1, h2, h3.1, h4⟩
/-- What a block of memory stands for. -/
def BlkRep (F : Cells) (w : World) (ow : Ow) (T : List (Nat × Nat × Nat)) (b : Nat) : Blk → Prop
  | .cells ty cs => ¬ Dead T b ∧ ∃ β, ow β = some (.mem b) ∧ RowRepT F w ow T β ty cs
  | .iter s pos => ¬ Dead T b ∧ ∃ β, ow β = some (.mem b) ∧ w.heap[β]? = some (.stringIter ⟨⟨s⟩⟩ pos)
  | .dead => True

structure MRel (X : Cells) (ow : Ow) (S : Mem) (w : World) : Prop where
  inj : ∀ β β' o, ow β = some o → ow β' = some o → β = β'
  bnd : ∀ β o, ow β = some o → β < w.heap.size
  xb : ∀ β o, X β o → β < w.heap.size ∧ ow β = none
  memlt : ∀ β b, ow β = some (.mem b) → b < S.mem.length
  toklt : ∀ β t, ow β = some (.tok t) → t < S.toks.length
  locin : ∀ β d, ow β = some (.loc d) → (locGet S.loc d).isSome = true
  deadlt : ∀ b, Dead S.toks b → b < S.mem.length
  blk : ∀ b k, S.mem[b]? = some k → BlkRep (FX X ow S.toks) w ow S.toks b k
  loc : ∀ d cs, locGet S.loc d = some cs → ∃ β, ow β = some (.loc d) ∧ RowRep (FX X ow S.toks) w ow S.toks β cs
  tok : ∀ t e z, S.toks[t]? = some (e, z) → z.1 ≠ 0 → ∃ β vs fr, ow β = some (.tok t) ∧ w.heap[β]? = some (.cells vs z.2 fr) ∧ e * z.1 ≤ vs.size ∧ fr.2 ≤ e * z.1

/-- From one state to a later one. -/
structure Tr (X : Cells) (ow : Ow) (T : List (Nat × Nat × Nat)) (w : World) (ow' : Ow) (T' : List (Nat × Nat × Nat)) (w' : World) : Prop where
  st : St (FX X ow T) w (FX X ow' T') w'
  mem : ∀ β b, ow β = some (.mem b) → Dead T' b ∨ (ow' β = some (.mem b) ∧ w'.shape? β = w.shape? β)
  tl : T.length ≤ T'.length
  tok : ∀ t e' z', t < T.length → T'[t]? = some (e', z') → ∃ e, T[t]? = some (e, z') ∧ e ≤ e' ∧ (z'.1 = 0 → e = e') ∧
    (e = e' → ∀ β sh, ow β = some (.tok t) → w.shape? β = some sh → ow' β = some (.tok t) ∧ w'.shape? β = some sh)
  fr : ∀ β, β < w.heap.size → ow β = none → ow' β = none ∧ w'.heap[β]? = w.heap[β]?
  size : w.heap.size ≤ w'.heap.size
  os : w'.os = w.os
  tape : w'.tape = w.tape
  output : w'.output = w.output

theorem MRel.cells {X ow S w} (h : MRel X ow S w) {b ty cs} (hb : S.mem[b]? = some (.cells ty cs)) : ∃ β, ow β = some (.mem b) ∧ RowRepT (FX X ow S.toks) w ow S.toks β ty cs := (h.blk b _ hb).2
theorem MRel.alive {X ow S w} (h : MRel X ow S w) {b ty cs} {p : Prop} (hb : S.mem[b]? = some (.cells ty cs)) (hd : Dead S.toks b ∨ p) : p := hd.resolve_left (h.blk b _ hb).1
theorem Tr.dead {X ow T w ow' T' w'} (k : Tr X ow T w ow' T' w') {b} (h : Dead T b) : Dead T' b := by
  obtain ⟨t, ht⟩ := List.getElem?_of_mem h
  have hlt := (List.getElem?_eq_some_iff.1 ht).1
  have hlt' : t < T'.length := Nat.lt_of_lt_of_le hlt k.tl
  obtain ⟨e, h1, h2, h3, _⟩ := k.tok t _ _ hlt (List.getElem?_eq_getElem hlt')
  rw [ht] at h1
  simp only [Option.some.injEq, Prod.mk.injEq] at h1
  obtain ⟨h4, h5⟩ := h1
  have h6 := h3 (by rw [← h5])
  have : T'[t] = (b, 0, 0) := Prod.ext (h6.symm.trans h4.symm) h5.symm
  exact List.mem_iff_getElem.2 ⟨t, hlt', this⟩

theorem Tr.refl (X ow T w) : Tr X ow T w ow T w where
  st := St.refl _ _
  mem := fun _ _ h => .inr ⟨h, rfl⟩
  tl := Nat.le_refl _
  tok := fun t e z _ h => ⟨e, h, Nat.le_refl _, fun _ => rfl, fun _ _ _ a b => ⟨a, b⟩⟩
  fr := fun _ _ h => ⟨h, rfl⟩
  size := Nat.le_refl _
  os := rfl
  tape := rfl
  output := rfl

theorem Tr.trans {X ow T w ow1 T1 w1 ow2 T2 w2} (h : Tr X ow T w ow1 T1 w1) (k : Tr X ow1 T1 w1 ow2 T2 w2) : Tr X ow T w ow2 T2 w2 where
  st := h.st.trans k.st
  mem := fun β b a => by
    rcases h.mem β b a with h1 | ⟨h1, h2⟩
    · exact .inl (k.dead h1)
    · rcases k.mem β b h1 with h3 | ⟨h3, h4⟩
      · exact .inl h3
      · exact .inr ⟨h3, h4.trans h2⟩
  tl := Nat.le_trans h.tl k.tl
  tok := by
    intro t e z ht he
    obtain ⟨e1, h1, l1, d1, m1⟩ := k.tok t e z (Nat.lt_of_lt_of_le ht h.tl) he
    obtain ⟨e0, h0, l0, d0, m0⟩ := h.tok t e1 z ht h1
    refine ⟨e0, h0, Nat.le_trans l0 l1, fun hz => (d0 hz).trans (d1 hz), fun heq β sh a b => ?_⟩
    have q1 : e0 = e1 := by omega
    have q2 : e1 = e := by omega
    obtain ⟨a', b'⟩ := m0 q1 β sh a b
    exact m1 q2 β sh a' b'
  fr := fun β hb hn => by
    obtain ⟨a, b⟩ := h.fr β hb hn
    obtain ⟨c, d⟩ := k.fr β (Nat.lt_of_lt_of_le hb h.size) a
    exact ⟨c, d.trans b⟩
  size := Nat.le_trans h.size k.size
  os := k.os.trans h.os
  tape := k.tape.trans h.tape
  output := k.output.trans h.output

theorem Tr.own {X ow T w ow' T' w'} (k : Tr X ow T w ow' T' w') {b β} (h : Dead T b ∨ ow β = some (.mem b)) : Dead T' b ∨ ow' β = some (.mem b) := by
  rcases h with h | h
  · exact .inl (k.dead h)
  · rcases k.mem _ _ h with h1 | ⟨h1, _⟩
    · exact .inl h1
    · exact .inr h1
theorem FRep.mono {X ow T w ow' T' w'} (k : Tr X ow T w ow' T' w') {r v} (h : FRep (FX X ow T) w ow T r v) : FRep (FX X ow' T') w' ow' T' r v := by
  induction h with
  | p h => exact .p (h.mono k.st)
  | nsl b a h => exact .nsl b a h
  | own l t v ht h h' =>
    refine .own l t v (Nat.lt_of_lt_of_le ht k.tl) (h.mono k.st) (fun e' z' he => ?_)
    obtain ⟨e, h0, hle, _, hm⟩ := k.tok t e' z' ht he
    obtain ⟨hl, hz, hx⟩ := h' e z' h0
    refine ⟨Nat.le_trans hl hle, hz, fun heq => ?_⟩
    by_cases hee : e = e'
    · obtain ⟨β, cap, hv, ho, hs⟩ := hx (hee.trans heq)
      obtain ⟨a, b⟩ := hm hee β _ ho hs
      exact ⟨β, cap, hv, a, b⟩
    · omega
  | ptr b off β h => exact .ptr b off β (k.own h)
  | rs b off len z β cap h hc =>
    refine .rs b off len z β cap ?_ hc
    rcases h with h | ⟨h, ty, hs⟩
    · exact .inl (k.dead h)
    · rcases k.mem _ _ h with h1 | ⟨h1, h2⟩
      · exact .inl h1
      · exact .inr ⟨h1, ty, h2.trans hs⟩
  | mp b β h => exact .mp b β (k.own h)
  | od l t a cap h hc ih => exact .od l t a cap ih hc
  | up p => exact .up p
  | agg cs vs hl h ih => exact .agg cs vs hl ih
  | tup cs vs hl h ih => exact .tup cs vs hl ih
  | fn f xs ys vs us hv hu h h' ih ih' => exact .fn f xs ys vs us hv hu ih ih'
  | iface t x v h ih => exact .iface t x v ih
  | top v => exact .top v
end Go.Ag
/- An abstract machine for Go functions, third part: steps of memory. -/
namespace Go.Ag
open Go
set_option linter.unusedVariables false
set_option linter.unusedSimpArgs false

theorem RowRepT.mono {X ow T w ow' T' w' β ty cs} (k : Tr X ow T w ow' T' w') (hh : w'.heap[β]? = w.heap[β]?)
    (h : RowRepT (FX X ow T) w ow T β ty cs) : RowRepT (FX X ow' T') w' ow' T' β ty cs := by
  obtain ⟨vs, fr, h1, h2, h3, h4⟩ := h
  exact ⟨vs, fr, hh.trans h1, h2, h3, fun k' x v a b => (h4 k' x v a b).mono k⟩
theorem RowRep.mono {X ow T w ow' T' w' β cs} (k : Tr X ow T w ow' T' w') (hh : w'.heap[β]? = w.heap[β]?)
    (h : RowRep (FX X ow T) w ow T β cs) : RowRep (FX X ow' T') w' ow' T' β cs := by
  obtain ⟨vs, el, fr, h1, h2, h3, h4⟩ := h
  exact ⟨vs, el, fr, hh.trans h1, h2, h3, fun k' x v a b => (h4 k' x v a b).mono k⟩

/-- The later state stands in the relation, if its parts are shown one by one. -/
theorem BlkRep.mono {X ow T w ow' T' w' b k} (tr : Tr X ow T w ow' T' w') (hd : Dead T' b → Dead T b) (hh : ∀ β, ow β = some (.mem b) → w'.heap[β]? = w.heap[β]?)
    (h : BlkRep (FX X ow T) w ow T b k) : BlkRep (FX X ow' T') w' ow' T' b k := by
  have up : ∀ β, ¬ Dead T b → ow β = some (.mem b) → ow' β = some (.mem b) := fun β hn ho => ((tr.mem _ _ ho).resolve_left fun h => hn (hd h)).1
  cases k with
  | cells ty cs =>
    obtain ⟨hn, β, ho, hr⟩ := h
    exact ⟨fun h => hn (hd h), β, up β hn ho, hr.mono tr (hh β ho)⟩
  | iter s pos =>
    obtain ⟨hn, β, ho, hr⟩ := h
    exact ⟨fun h => hn (hd h), β, up β hn ho, (hh β ho).trans hr⟩
  | dead => trivial

theorem MRel.next {X ow S w ow' S' w'} (hM : MRel X ow S w) (tr : Tr X ow S.toks w ow' S'.toks w')
    (inj : ∀ β β' o, ow' β = some o → ow' β' = some o → β = β') (bnd : ∀ β o, ow' β = some o → β < w'.heap.size)
    (memlt : ∀ β b, ow' β = some (.mem b) → b < S'.mem.length) (toklt : ∀ β t, ow' β = some (.tok t) → t < S'.toks.length)
    (locin : ∀ β d, ow' β = some (.loc d) → (locGet S'.loc d).isSome = true)
    (dd : ∀ b, Dead S'.toks b → Dead S.toks b) (ml : S.mem.length ≤ S'.mem.length)
    (blk : ∀ b k, S'.mem[b]? = some k → (S.mem[b]? = some k ∧ ∀ β, ow β = some (.mem b) → w'.heap[β]? = w.heap[β]?) ∨ BlkRep (FX X ow' S'.toks) w' ow' S'.toks b k)
    (loc : ∀ d cs, locGet S'.loc d = some cs → (locGet S.loc d = some cs ∧ ∀ β, ow β = some (.loc d) → ow' β = some (.loc d) ∧ w'.heap[β]? = w.heap[β]?) ∨
      ∃ β, ow' β = some (.loc d) ∧ RowRep (FX X ow' S'.toks) w' ow' S'.toks β cs)
    (tok : ∀ (t : Nat) e z, S'.toks[t]? = some (e, z) → (S.toks[t]? = some (e, z) ∧ ∀ β, ow β = some (.tok t) → ow' β = some (.tok t) ∧ w'.heap[β]? = w.heap[β]?) ∨
      (∃ β vs fr, ow' β = some (.tok t) ∧ w'.heap[β]? = some (.cells vs z.2 fr) ∧ e * z.1 ≤ vs.size ∧ fr.2 ≤ e * z.1)) :
    MRel X ow' S' w' where
  inj := inj
  bnd := bnd
  xb := fun β o hx => by
    obtain ⟨h1, h2⟩ := hM.xb β o hx
    exact ⟨Nat.lt_of_lt_of_le h1 tr.size, (tr.fr β h1 h2).1⟩
  memlt := memlt
  toklt := toklt
  locin := locin
  deadlt := fun b h => Nat.lt_of_lt_of_le (hM.deadlt b (dd b h)) ml
  blk := fun b k h => by
    rcases blk b k h with ⟨h1, h2⟩ | h1
    · exact (hM.blk b k h1).mono tr (dd b) h2
    · exact h1
  loc := fun d cs h => by
    rcases loc d cs h with ⟨h1, h2⟩ | h1
    · obtain ⟨β, ho, hr⟩ := hM.loc d cs h1
      obtain ⟨h3, h4⟩ := h2 β ho
      exact ⟨β, h3, hr.mono tr h4⟩
    · exact h1
  tok := fun t e z h hz => by
    rcases tok t e z h with ⟨h1, h2⟩ | h1
    · obtain ⟨β, vs, fr, ho, hh, hle, hf⟩ := hM.tok t e z h1 hz
      obtain ⟨h3, h4⟩ := h2 β ho
      exact ⟨β, vs, fr, h3, h4.trans hh, hle, hf⟩
    · exact h1

/-- Nothing but the tape's place has turned. -/
theorem Tr.heap {X ow T w w'} (hh : w'.heap = w.heap) (ho : w'.os = w.os) (ht : w'.tape = w.tape) (hp : w'.output = w.output) : Tr X ow T w ow T w' where
  st := fun β o u h k => ⟨by rw [← h]; unfold World.cell?; rw [hh], k⟩
  mem := fun _ _ h => .inr ⟨h, by unfold World.shape?; rw [hh]⟩
  tl := Nat.le_refl _
  tok := fun t e z _ h => ⟨e, h, Nat.le_refl _, fun _ => rfl, fun _ β sh a b => ⟨a, by rw [← b]; unfold World.shape?; rw [hh]⟩⟩
  fr := fun β _ h => ⟨h, by rw [hh]⟩
  size := by rw [hh]; exact Nat.le_refl _
  os := ho
  tape := ht
  output := hp
theorem MRel.heap {X ow S w w'} (hM : MRel X ow S w) (hh : w'.heap = w.heap) (ho : w'.os = w.os) (ht : w'.tape = w.tape) (hp : w'.output = w.output) : MRel X ow S w' :=
  hM.next (Tr.heap hh ho ht hp) hM.inj (fun β o h => by rw [hh]; exact hM.bnd β o h) hM.memlt hM.toklt hM.locin (fun _ h => h) (Nat.le_refl _)
    (fun b k h => .inl ⟨h, fun β _ => by rw [hh]⟩) (fun d cs h => .inl ⟨h, fun β a => ⟨a, by rw [hh]⟩⟩) (fun t e z h => .inl ⟨h, fun β a => ⟨a, by rw [hh]⟩⟩)

theorem cell_lt {w : World} {β o : Nat} {u : Value} (h : w.cell? ⟨β, o, none⟩ = some u) : β < w.heap.size := World.block_lt_of_cell? w _ h
theorem cell_push {w : World} (ob : Obj) {β o : Nat} {u : Value} (h : w.cell? ⟨β, o, none⟩ = some u) : (w.alloc ob).cell? ⟨β, o, none⟩ = some u := by
  have hb := cell_lt h
  unfold World.cell? at *
  simp only [World.alloc, Array.getElem?_push, Nat.ne_of_lt hb, if_false]
  exact h
theorem heap_push {w : World} (ob : Obj) {β : Nat} (h : β < w.heap.size) : (w.alloc ob).heap[β]? = w.heap[β]? := by
  simp only [World.alloc, Array.getElem?_push, Nat.ne_of_lt h, if_false]
theorem heap_push_new (w : World) (ob : Obj) : (w.alloc ob).heap[w.heap.size]? = some ob := by
  show (w.heap.push ob)[w.heap.size]? = some ob
  simp

theorem shape_push_new (w : World) (vs : Array Value) (el : TypeId) : (w.alloc (.cells vs el)).shape? w.heap.size = some (el, vs.size) := by
  unfold World.shape?
  rw [heap_push_new]
/-- A new block; of the old owners some variables of the frame may have been forgotten; tokens may have come. -/
theorem Tr.push {X ow S w} (hM : MRel X ow S w) (ob : Obj) (ow' : Ow) (T' : List (Nat × Nat × Nat))
    (hold : ∀ β, β < w.heap.size → ow' β = ow β ∨ ∃ d, ow β = some (.loc d) ∧ ow' β = none)
    (hT : T' = S.toks ∨ ∃ x, T' = S.toks ++ [x]) : Tr X ow S.toks w ow' T' (w.alloc ob) where
  st := fun β o u h k => by
    have hb := cell_lt h
    refine ⟨cell_push ob h, fun hx => k ?_⟩
    rcases hx with hx | hx
    · exact .inl hx
    · right
      unfold Mut at *
      rcases hold β hb with he | ⟨d, h1, h2⟩
      · rw [he] at hx
        revert hx
        cases ho : ow β with
        | none => exact id
        | some q =>
          cases q with
          | mem b => exact id
          | loc d => exact id
          | tok t =>
            rintro ⟨e, z, h1, h2⟩
            have := hM.toklt β t ho
            rcases hT with rfl | ⟨x, rfl⟩
            · exact ⟨e, z, h1, h2⟩
            · rw [List.getElem?_append_left this] at h1; exact ⟨e, z, h1, h2⟩
      · rw [h2] at hx; exact hx.elim
  mem := fun β b h => by
    have hb := hM.bnd _ _ h
    rcases hold β hb with he | ⟨d, h1, h2⟩
    · exact .inr ⟨by rw [he, h], by unfold World.shape?; rw [heap_push ob hb]⟩
    · rw [h] at h1; cases h1
  tl := by rcases hT with rfl | ⟨x, rfl⟩ <;> simp
  tok := fun t e z ht h => by
    have h' : S.toks[t]? = some (e, z) := by
      rcases hT with rfl | ⟨x, rfl⟩
      · exact h
      · rwa [List.getElem?_append_left ht] at h
    refine ⟨e, h', Nat.le_refl _, fun _ => rfl, fun _ β sh a b => ?_⟩
    have hb := hM.bnd _ _ a
    refine ⟨?_, ?_⟩
    · rcases hold β hb with he | ⟨d, h1, h2⟩
      · rw [he, a]
      · rw [a] at h1; cases h1
    · unfold World.shape? at *
      rw [heap_push ob hb]; exact b
  fr := fun β hb hn => by
    refine ⟨?_, heap_push ob hb⟩
    rcases hold β hb with he | ⟨d, h1, h2⟩
    · rw [he, hn]
    · exact h2
  size := by simp
  os := rfl
  tape := rfl
  output := rfl

/-- A new row that nobody will write. -/
theorem MRel.pushPlain {X ow S w} (hM : MRel X ow S w) (ob : Obj) : MRel X ow S (w.alloc ob) ∧ Tr X ow S.toks w ow S.toks (w.alloc ob) := by
  have tr := Tr.push hM ob ow S.toks (fun β _ => .inl rfl) (.inl rfl)
  exact ⟨hM.next tr hM.inj (fun β o h => Nat.lt_of_lt_of_le (hM.bnd β o h) tr.size) hM.memlt hM.toklt hM.locin (fun _ h => h) (Nat.le_refl _)
    (fun b k h => .inl ⟨h, fun β a => heap_push ob (hM.bnd _ _ a)⟩) (fun d cs h => .inl ⟨h, fun β a => ⟨a, heap_push ob (hM.bnd _ _ a)⟩⟩)
    (fun t e z h => .inl ⟨h, fun β a => ⟨a, heap_push ob (hM.bnd _ _ a)⟩⟩), tr⟩

def owNew (ow : Ow) (N : Nat) (q : Owner) : Ow := fun β => if β = N then some q else ow β
theorem owNew_old {ow : Ow} {N β : Nat} {q : Owner} (h : β < N) : owNew ow N q β = ow β := by unfold owNew; rw [if_neg (by omega)]
theorem owNew_new {ow : Ow} {N : Nat} {q : Owner} : owNew ow N q N = some q := by unfold owNew; rw [if_pos rfl]

theorem inj_new {X ow S w} (hM : MRel X ow S w) {q : Owner} (hq : ∀ β, ow β ≠ some q) :
    ∀ β β' o, owNew ow w.heap.size q β = some o → owNew ow w.heap.size q β' = some o → β = β' := by
  intro β β' o h h'
  unfold owNew at *
  split at h <;> split at h'
  · omega
  · cases h; exact absurd h' (hq _)
  · cases h'; exact absurd h (hq _)
  · exact hM.inj _ _ _ h h'
theorem bnd_new {X ow S w} (hM : MRel X ow S w) {q : Owner} (ob : Obj) : ∀ β o, owNew ow w.heap.size q β = some o → β < (w.alloc ob).heap.size := by
  intro β o h
  unfold owNew at h
  simp only [World.size_alloc]
  split at h
  · omega
  · have := hM.bnd _ _ h; omega

/-- A new block of the call's own. -/
theorem MRel.pushBlk {X ow S w} (hM : MRel X ow S w) (ob : Obj) (k : Blk)
    (hk : ∀ ow' w', Tr X ow S.toks w ow' S.toks w' → ow' w.heap.size = some (.mem S.mem.length) → w'.heap[w.heap.size]? = some ob → ¬ Dead S.toks S.mem.length → BlkRep (FX X ow' S.toks) w' ow' S.toks S.mem.length k) :
    MRel X (owNew ow w.heap.size (.mem S.mem.length)) { S with mem := S.mem ++ [k] } (w.alloc ob) ∧
      Tr X ow S.toks w (owNew ow w.heap.size (.mem S.mem.length)) S.toks (w.alloc ob) := by
  have tr := Tr.push hM ob (owNew ow w.heap.size (.mem S.mem.length)) S.toks (fun β h => .inl (owNew_old h)) (.inl rfl)
  refine ⟨MRel.next (S' := { S with mem := S.mem ++ [k] }) hM tr (inj_new hM (fun β h => by have := hM.memlt _ _ h; omega)) (bnd_new hM _) ?_ ?_ (fun β d h => by
    unfold owNew at h
    split at h
    · cases h
    · exact hM.locin _ _ h) (fun _ h => h) (by simp) ?_ ?_ ?_, tr⟩
  · intro β b h
    unfold owNew at h
    simp only [List.length_append, List.length_singleton]
    split at h
    · cases h; omega
    · have := hM.memlt _ _ h; omega
  · intro β t h
    unfold owNew at h
    split at h
    · cases h
    · exact hM.toklt _ _ h
  · intro b k' h
    by_cases hb : b < S.mem.length
    · simp only at h
      rw [List.getElem?_append_left hb] at h
      exact .inl ⟨h, fun β a => heap_push _ (hM.bnd _ _ a)⟩
    · have hb' : b = S.mem.length := by
        have := (List.getElem?_eq_some_iff.1 h).1
        simp at this; omega
      subst hb'
      simp at h
      subst h
      exact .inr (hk _ _ tr owNew_new (heap_push_new w _) (fun hd => absurd (hM.deadlt _ hd) (by omega)))
  · intro d cs' h
    exact .inl ⟨h, fun β a => ⟨by rw [owNew_old (hM.bnd _ _ a), a], heap_push _ (hM.bnd _ _ a)⟩⟩
  · intro t e z h
    exact .inl ⟨h, fun β a => ⟨by rw [owNew_old (hM.bnd _ _ a), a], heap_push _ (hM.bnd _ _ a)⟩⟩

/-- A new row of memory of the call's own. -/
theorem MRel.pushRow {X ow S w} (hM : MRel X ow S w) (vs : Array Value) (ty : Nat) (cs : List RV) (hs : cs.length ≤ vs.size ∧ (ty % 2 = 0 → cs.length = vs.size))
    (hc : ∀ (k : Nat) x v, cs[k]? = some x → vs[k]? = some v → FRep (FX X ow S.toks) w ow S.toks x v) :
    MRel X (owNew ow w.heap.size (.mem S.mem.length)) { S with mem := S.mem ++ [.cells ty cs] } (w.alloc (.cells vs (ty / 2))) ∧
      Tr X ow S.toks w (owNew ow w.heap.size (.mem S.mem.length)) S.toks (w.alloc (.cells vs (ty / 2))) :=
  hM.pushBlk (.cells vs (ty / 2)) (.cells ty cs) fun ow' w' tr ho hh hd => ⟨hd, w.heap.size, ho, vs, (0, 0), hh, fun o _ h => by simp at h, hs, fun k x v a b => (hc k x v a b).mono tr⟩
theorem MRel.pushMem {X ow S w} (hM : MRel X ow S w) (vs : Array Value) (el : TypeId) (cs : List RV) (hs : cs.length = vs.size)
    (hc : ∀ (k : Nat) x v, cs[k]? = some x → vs[k]? = some v → FRep (FX X ow S.toks) w ow S.toks x v) :
    MRel X (owNew ow w.heap.size (.mem S.mem.length)) { S with mem := S.mem ++ [.cells (2 * el) cs] } (w.alloc (.cells vs el)) ∧
      Tr X ow S.toks w (owNew ow w.heap.size (.mem S.mem.length)) S.toks (w.alloc (.cells vs el)) := by
  have h := hM.pushRow vs (2 * el) cs ⟨Nat.le_of_eq hs, fun _ => hs⟩ hc
  rw [Nat.mul_div_cancel_left el (by decide)] at h
  exact h

theorem dead_append {T : List (Nat × Nat × Nat)} {e : Nat} {z : Nat × Nat} (hz : z.1 ≠ 0) {b : Nat} (h : Dead (T ++ [(e, z)]) b) : Dead T b := by
  unfold Dead at *
  rcases List.mem_append.1 h with h | h
  · exact h
  · simp at h
    obtain ⟨_, rfl⟩ := h
    exact absurd rfl hz
theorem dead_set {T : List (Nat × Nat × Nat)} {t e : Nat} {z : Nat × Nat} (hz : z.1 ≠ 0) {b : Nat} (h : Dead (T.set t (e, z)) b) : Dead T b := by
  unfold Dead at *
  rcases List.mem_or_eq_of_mem_set h with h | h
  · exact h
  · simp at h
    obtain ⟨_, rfl⟩ := h
    exact absurd rfl hz

/-- A new row to which may be appended. -/
theorem MRel.pushTok {X ow S w} (hM : MRel X ow S w) (vs : Array Value) (e : Nat) (z : Nat × Nat) (hz : z.1 ≠ 0) (hs : e * z.1 ≤ vs.size) :
    MRel X (owNew ow w.heap.size (.tok S.toks.length)) { S with toks := S.toks ++ [(e, z)] } (w.alloc (.cells vs z.2)) ∧
      Tr X ow S.toks w (owNew ow w.heap.size (.tok S.toks.length)) (S.toks ++ [(e, z)]) (w.alloc (.cells vs z.2)) := by
  have tr := Tr.push hM (.cells vs z.2) (owNew ow w.heap.size (.tok S.toks.length)) (S.toks ++ [(e, z)]) (fun β h => .inl (owNew_old h)) (.inr ⟨_, rfl⟩)
  refine ⟨MRel.next (S' := { S with toks := S.toks ++ [(e, z)] }) hM tr (inj_new hM (fun β h => by have := hM.toklt _ _ h; omega)) (bnd_new hM _) ?_ ?_ (fun β d h => by
    unfold owNew at h
    split at h
    · cases h
    · exact hM.locin _ _ h) (fun _ h => dead_append hz h) (Nat.le_refl _) ?_ ?_ ?_, tr⟩
  · intro β b h
    unfold owNew at h
    split at h
    · cases h
    · exact hM.memlt _ _ h
  · intro β t h
    unfold owNew at h
    simp only [List.length_append, List.length_singleton]
    split at h
    · cases h; omega
    · have := hM.toklt _ _ h; omega
  · intro b k h
    exact .inl ⟨h, fun β a => heap_push _ (hM.bnd _ _ a)⟩
  · intro d cs' h
    exact .inl ⟨h, fun β a => ⟨by rw [owNew_old (hM.bnd _ _ a), a], heap_push _ (hM.bnd _ _ a)⟩⟩
  · intro t e' z' h
    by_cases hb : t < S.toks.length
    · rw [List.getElem?_append_left hb] at h
      exact .inl ⟨h, fun β a => ⟨by rw [owNew_old (hM.bnd _ _ a), a], heap_push _ (hM.bnd _ _ a)⟩⟩
    · have hb' : t = S.toks.length := by
        have := (List.getElem?_eq_some_iff.1 h).1
        simp at this; omega
      subst hb'
      simp at h
      obtain ⟨rfl, rfl⟩ := h
      exact .inr ⟨w.heap.size, vs, (0, 0), owNew_new, heap_push_new w _, hs, Nat.zero_le _⟩

theorem locGet_set (l : List (Nat × List RV)) (d d' : Nat) (v : List RV) : locGet (locSet l d v) d' = if d = d' then some v else locGet l d' := by
  induction l with
  | nil => simp [locSet_nil, locSet_cons, locGet_nil, locGet_cons]
  | cons x r ih =>
    obtain ⟨k, u⟩ := x
    rw [locSet_cons]
    by_cases h : k = d
    · subst h
      simp only [if_pos, locGet_nil, locGet_cons]
      split <;> rfl
    · simp only [if_neg h, locGet_nil, locGet_cons, ih]
      by_cases h1 : k = d'
      · subst h1; simp [Ne.symm h]
      · simp [h1]

def owLoc (ow : Ow) (N d : Nat) : Ow := fun β => if β = N then some (.loc d) else match ow β with
  | some (.loc d') => if d' = d then none else some (.loc d')
  | q => q
theorem owLoc_old {ow : Ow} {N d β : Nat} (h : β < N) (hd : ow β ≠ some (.loc d)) : owLoc ow N d β = ow β := by
  unfold owLoc
  rw [if_neg (by omega)]
  split
  · rename_i d' h'
    split
    · subst_vars; exact absurd h' hd
    · exact h'.symm
  · rfl
theorem owLoc_some {ow : Ow} {N d β : Nat} {o : Owner} (h : owLoc ow N d β = some o) : (β = N ∧ o = .loc d) ∨ (β ≠ N ∧ ow β = some o ∧ o ≠ .loc d) := by
  unfold owLoc at h
  split at h
  · left; cases h; exact ⟨by assumption, rfl⟩
  · right
    refine ⟨by assumption, ?_⟩
    split at h
    · rename_i d' h'
      split at h
      · cases h
      · cases h; exact ⟨h', fun e => by cases e; contradiction⟩
    · rename_i hne
      exact ⟨h, fun e => hne d (by rw [h, e])⟩

/-- A new variable of the frame's own. -/
theorem MRel.pushLoc {X ow S w} (hM : MRel X ow S w) (d : Nat) (vs : Array Value) (el : TypeId) (cs : List RV) (hs : cs.length ≤ vs.size)
    (hc : ∀ (k : Nat) x v, cs[k]? = some x → vs[k]? = some v → FRep (FX X ow S.toks) w ow S.toks x v) :
    MRel X (owLoc ow w.heap.size d) { S with loc := locSet S.loc d cs } (w.alloc (.cells vs el)) ∧
      Tr X ow S.toks w (owLoc ow w.heap.size d) S.toks (w.alloc (.cells vs el)) := by
  have tr := Tr.push hM (.cells vs el) (owLoc ow w.heap.size d) S.toks (fun β h => by
    by_cases hd : ow β = some (.loc d)
    · right
      refine ⟨d, hd, ?_⟩
      unfold owLoc
      rw [if_neg (by omega), hd]
      simp
    · exact .inl (owLoc_old h hd)) (.inl rfl)
  refine ⟨MRel.next (S' := { S with loc := locSet S.loc d cs }) hM tr ?_ ?_ ?_ ?_ (fun β d' h => by
    simp only [locGet_set]
    split
    · rfl
    · rename_i hd
      rcases owLoc_some h with ⟨h1, h2⟩ | ⟨h1, h2, h3⟩
      · cases h2; exact absurd rfl hd
      · exact hM.locin _ _ h2) (fun _ h => h) (Nat.le_refl _) ?_ ?_ ?_, tr⟩
  · intro β β' o h h'
    rcases owLoc_some h with ⟨h1, h2⟩ | ⟨h1, h2, h3⟩ <;> rcases owLoc_some h' with ⟨h4, h5⟩ | ⟨h4, h5, h6⟩
    · omega
    · exact absurd h2 h6
    · exact absurd h5 h3
    · exact hM.inj _ _ _ h2 h5
  · intro β o h
    simp only [World.size_alloc]
    rcases owLoc_some h with ⟨h1, h2⟩ | ⟨h1, h2, h3⟩
    · omega
    · have := hM.bnd _ _ h2; omega
  · intro β b h
    rcases owLoc_some h with ⟨h1, h2⟩ | ⟨h1, h2, h3⟩
    · cases h2
    · exact hM.memlt _ _ h2
  · intro β t h
    rcases owLoc_some h with ⟨h1, h2⟩ | ⟨h1, h2, h3⟩
    · cases h2
    · exact hM.toklt _ _ h2
  · intro b k h
    exact .inl ⟨h, fun β a => heap_push _ (hM.bnd _ _ a)⟩
  · intro d' cs' h
    simp only [locGet_set] at h
    split at h
    · rename_i hd
      subst hd
      cases h
      exact .inr ⟨w.heap.size, by unfold owLoc; rw [if_pos rfl], vs, el, (0, 0), heap_push_new w _, fun o _ h => by omega, hs, fun k x v a b => (hc k x v a b).mono tr⟩
    · rename_i hd
      exact .inl ⟨h, fun β a => ⟨by rw [owLoc_old (hM.bnd _ _ a) (by rw [a]; intro e; cases e; exact hd rfl), a], heap_push _ (hM.bnd _ _ a)⟩⟩
  · intro t e z h
    exact .inl ⟨h, fun β a => ⟨by rw [owLoc_old (hM.bnd _ _ a) (by rw [a]; intro e; cases e), a], heap_push _ (hM.bnd _ _ a)⟩⟩
end Go.Ag
/- An abstract machine for Go functions, fourth part: writing memory. -/
namespace Go.Ag
open Go
set_option linter.unusedVariables false
set_option linter.unusedSimpArgs false

theorem setCells_misc (b : Nat) : ∀ (vs : List Value) (o : Nat) (w : World), (w.setCells b o vs).os = w.os ∧ (w.setCells b o vs).tape = w.tape ∧ (w.setCells b o vs).output = w.output ∧
    (w.setCells b o vs).heap.size = w.heap.size ∧ ∀ β, β ≠ b → (w.setCells b o vs).heap[β]? = w.heap[β]?
  | [], o, w => ⟨rfl, rfl, rfl, rfl, fun _ _ => rfl⟩
  | v :: r, o, w => by
    obtain ⟨h1, h2, h3, h4, h5⟩ := setCells_misc b r (o + 1) (w.setCell ⟨b, o, none⟩ v)
    refine ⟨h1, h2, h3, h4.trans (by simp), fun β hb => (h5 β hb).trans ?_⟩
    simp only [World.setCell, Array.getElem?_modify]
    rw [if_neg (Ne.symm hb)]

theorem over_length {α : Type} (xs : List α) (o : Nat) (ys : List α) (h : o + ys.length ≤ xs.length) : (over xs o ys).length = xs.length := by
  unfold over
  simp
  omega
theorem over_get {α : Type} (xs : List α) (o : Nat) (ys : List α) (h : o + ys.length ≤ xs.length) (k : Nat) :
    (over xs o ys)[k]? = if o ≤ k ∧ k < o + ys.length then ys[k - o]? else xs[k]? := by
  unfold over
  rw [List.append_assoc]
  by_cases h1 : k < o
  · rw [List.getElem?_append_left (by simp; omega), if_neg (by omega), List.getElem?_take, if_pos h1]
  · rw [List.getElem?_append_right (by simp; omega)]
    have e : (xs.take o).length = o := by simp; omega
    rw [e]
    by_cases h2 : k < o + ys.length
    · rw [List.getElem?_append_left (by omega), if_pos ⟨by omega, h2⟩]
    · rw [List.getElem?_append_right (by omega), if_neg (by omega), List.getElem?_drop]
      congr 1
      omega

theorem setCells_row (b : Nat) (el : TypeId) (fr : Nat × Nat) : ∀ (vs : List Value) (o : Nat) (cur : Array Value) (w : World), w.heap[b]? = some (.cells cur el fr) → o + vs.length ≤ cur.size →
    (w.setCells b o vs).heap[b]? = some (.cells (over cur.toList o vs).toArray el fr)
  | [], o, cur, w, h, _ => by
    simp only [World.setCells, over, List.append_nil, List.length_nil, Nat.add_zero, List.take_append_drop, Array.toArray_toList]
    exact h
  | v :: r, o, cur, w, h, hl => by
    have h1 : (w.setCell ⟨b, o, none⟩ v).heap[b]? = some (.cells (cur.setIfInBounds o v) el fr) := by
      simp only [World.setCell, Array.getElem?_modify, h]
      simp
    have := setCells_row b el fr r (o + 1) _ _ h1 (by simp at *; omega)
    rw [World.setCells, this]
    congr 2
    apply Array.ext'
    simp only
    apply List.ext_getElem?
    intro k
    rw [over_get _ _ _ (by simp at *; omega), over_get _ _ _ (by simp at *; omega)]
    simp only [List.length_cons, Array.toList_setIfInBounds, List.getElem?_set]
    simp at hl
    by_cases h1 : o = k
    · subst h1
      have hlt : o < cur.toList.length := by simp; omega
      rw [if_neg (show ¬ (o + 1 ≤ o ∧ o < o + 1 + r.length) by omega), if_pos rfl, if_pos hlt, if_pos (show o ≤ o ∧ o < o + (r.length + 1) by omega)]
      simp
    · by_cases h2 : o + 1 ≤ k ∧ k < o + 1 + r.length
      · rw [if_pos h2, if_pos ⟨by omega, by omega⟩, show k - o = (k - (o + 1)) + 1 by omega, List.getElem?_cons_succ]
      · rw [if_neg h2, if_neg (show ¬ (o ≤ k ∧ k < o + (r.length + 1)) by omega), if_neg h1]

theorem shape_setCells (w : World) (β o : Nat) : ∀ (us : List Value) (γ : Nat), (w.setCells β o us).shape? γ = w.shape? γ := by
  intro us
  induction us generalizing w o with
  | nil => intro γ; rfl
  | cons v us ih =>
    intro γ
    rw [World.setCells, ih]
    unfold World.shape? World.setCell
    simp only [Array.getElem?_modify]
    by_cases h : β = γ
    · subst h
      simp only [if_true]
      cases w.heap[β]? with
      | none => rfl
      | some ob => cases ob <;> simp
    · rw [if_neg h]
theorem cell_ne {w w' : World} {β o : Nat} (h : w'.heap[β]? = w.heap[β]?) : w'.cell? ⟨β, o, none⟩ = w.cell? ⟨β, o, none⟩ := by
  unfold World.cell?; rw [h]

/-- A row of one's own is written. -/
theorem Tr.write {X ow S w β} {w' : World} (hq : (∃ b, ow β = some (.mem b)) ∨ ∃ d, ow β = some (.loc d)) (hh : ∀ γ, γ ≠ β → w'.heap[γ]? = w.heap[γ]?) (hsh : ∀ γ, w'.shape? γ = w.shape? γ)
    (hs : w'.heap.size = w.heap.size) (ho : w'.os = w.os) (ht : w'.tape = w.tape) (hp : w'.output = w.output) : Tr X ow S w ow S w' where
  st := fun γ o u h k => by
    have hne : γ ≠ β := by
      rintro rfl
      refine k (.inr ?_)
      unfold Mut
      rcases hq with ⟨b, e⟩ | ⟨d, e⟩ <;> rw [e] <;> trivial
    exact ⟨by rw [cell_ne (hh γ hne)]; exact h, k⟩
  mem := fun γ b h => .inr ⟨h, hsh γ⟩
  tl := Nat.le_refl _
  tok := fun t e z _ h => ⟨e, h, Nat.le_refl _, fun _ => rfl, fun _ γ sh a b => ⟨a, by
    have hne : γ ≠ β := by
      rintro rfl
      rcases hq with ⟨b, e⟩ | ⟨d, e⟩ <;> rw [e] at a <;> cases a
    unfold World.shape? at *
    rw [hh γ hne]; exact b⟩⟩
  fr := fun γ _ hn => ⟨hn, hh γ (by rintro rfl; rcases hq with ⟨b, e⟩ | ⟨d, e⟩ <;> rw [e] at hn <;> cases hn)⟩
  size := by rw [hs]; exact Nat.le_refl _
  os := ho
  tape := ht
  output := hp

theorem RowRep.write {X ow T w ow' T' w' β cs o l us} (h : RowRep (FX X ow T) w ow T β cs) (tr : Tr X ow T w ow' T' w') (he : w' = w.setCells β o us)
    (hl : us.length = l.length) (hb : o + l.length ≤ cs.length) (hr : ∀ (k : Nat) x v, l[k]? = some x → us[k]? = some v → FRep (FX X ow T) w ow T x v) :
    RowRep (FX X ow' T') w' ow' T' β (over cs o l) := by
  obtain ⟨vs, el, fr, h1, h2, h3, h4⟩ := h
  subst he
  refine ⟨_, el, fr, setCells_row β el fr us o vs w h1 (by omega), ?_, ?_, ?_⟩
  · intro q hq
    have : q < vs.size := by
      have := over_length vs.toList o us (by simp; omega)
      simp at *; omega
    exact h2 q this
  · rw [over_length _ _ _ hb]
    have := over_length vs.toList o us (by simp; omega)
    simp at this
    simp [this, h3]
  · intro k x v hx hv
    rw [over_get _ _ _ hb] at hx
    simp only [List.getElem?_toArray] at hv
    rw [over_get _ _ _ (by simp; omega)] at hv
    rw [hl] at hv
    split at hx
    · rename_i hc
      rw [if_pos hc] at hv
      exact (hr _ _ _ hx hv).mono tr
    · rename_i hc
      rw [if_neg hc] at hv
      exact (h4 k x v hx (by simpa using hv)).mono tr

theorem RowRepT.write {X ow T w ow' T' w' β ty cs o l us} (h : RowRepT (FX X ow T) w ow T β ty cs) (tr : Tr X ow T w ow' T' w') (he : w' = w.setCells β o us)
    (hl : us.length = l.length) (hb : o + l.length ≤ cs.length) (hr : ∀ (k : Nat) x v, l[k]? = some x → us[k]? = some v → FRep (FX X ow T) w ow T x v) :
    RowRepT (FX X ow' T') w' ow' T' β ty (over cs o l) := by
  obtain ⟨vs, fr, h1, h2, ⟨h3, h3'⟩, h4⟩ := h
  subst he
  refine ⟨_, fr, setCells_row β (ty / 2) fr us o vs w h1 (by omega), ?_, ?_, ?_⟩
  · intro q hq
    have : q < vs.size := by
      have := over_length vs.toList o us (by simp; omega)
      simp at *; omega
    exact h2 q this
  · rw [over_length _ _ _ hb]
    have := over_length vs.toList o us (by simp; omega)
    simp at this
    simp only [List.size_toArray, this]
    exact ⟨h3, h3'⟩
  · intro k x v hx hv
    rw [over_get _ _ _ hb] at hx
    simp only [List.getElem?_toArray] at hv
    rw [over_get _ _ _ (by simp; omega)] at hv
    rw [hl] at hv
    split at hx
    · rename_i hc
      rw [if_pos hc] at hv
      exact (hr _ _ _ hx hv).mono tr
    · rename_i hc
      rw [if_neg hc] at hv
      exact (h4 k x v hx (by simpa using hv)).mono tr

theorem MRel.writeMem {X ow S w b β ty cs o l us} (hM : MRel X ow S w) (hS : S.mem[b]? = some (.cells ty cs)) (ho : ow β = some (.mem b)) (hl : us.length = l.length) (hb : o + l.length ≤ cs.length)
    (hr : ∀ (k : Nat) x v, l[k]? = some x → us[k]? = some v → FRep (FX X ow S.toks) w ow S.toks x v) :
    MRel X ow { S with mem := S.mem.set b (.cells ty (over cs o l)) } (w.setCells β o us) ∧ Tr X ow S.toks w ow S.toks (w.setCells β o us) := by
  obtain ⟨e1, e2, e3, e4, e5⟩ := setCells_misc β us o w
  have tr : Tr X ow S.toks w ow S.toks (w.setCells β o us) := Tr.write (.inl ⟨b, ho⟩) e5 (shape_setCells w β o us) e4 e1 e2 e3
  refine ⟨MRel.next (S' := { S with mem := S.mem.set b (.cells ty (over cs o l)) }) hM tr hM.inj (fun γ q h => by rw [e4]; exact hM.bnd _ _ h) (fun γ q h => by simp; exact hM.memlt _ _ h) hM.toklt hM.locin (fun _ h => h) (by simp) ?_ ?_ ?_, tr⟩
  · intro c k h
    simp only [List.getElem?_set] at h
    split at h
    · rename_i hbc
      subst hbc
      split at h
      · cases h
        obtain ⟨γ, hγ, hrow⟩ := hM.cells hS
        obtain rfl := hM.inj _ _ _ hγ ho
        exact .inr ⟨(hM.blk b _ hS).1, γ, ho, hrow.write tr rfl hl hb hr⟩
      · cases h
    · rename_i hbc
      exact .inl ⟨h, fun γ a => e5 γ (by rintro rfl; rw [ho] at a; cases a; exact hbc rfl)⟩
  · intro d cs' h
    exact .inl ⟨h, fun γ a => ⟨a, e5 γ (by rintro rfl; rw [ho] at a; cases a)⟩⟩
  · intro t e z h
    exact .inl ⟨h, fun γ a => ⟨a, e5 γ (by rintro rfl; rw [ho] at a; cases a)⟩⟩

theorem MRel.writeLoc {X ow S w d β cs o l us} (hM : MRel X ow S w) (hS : locGet S.loc d = some cs) (ho : ow β = some (.loc d)) (hl : us.length = l.length) (hb : o + l.length ≤ cs.length)
    (hr : ∀ (k : Nat) x v, l[k]? = some x → us[k]? = some v → FRep (FX X ow S.toks) w ow S.toks x v) :
    MRel X ow { S with loc := locSet S.loc d (over cs o l) } (w.setCells β o us) ∧ Tr X ow S.toks w ow S.toks (w.setCells β o us) := by
  obtain ⟨e1, e2, e3, e4, e5⟩ := setCells_misc β us o w
  have tr : Tr X ow S.toks w ow S.toks (w.setCells β o us) := Tr.write (.inr ⟨d, ho⟩) e5 (shape_setCells w β o us) e4 e1 e2 e3
  refine ⟨MRel.next (S' := { S with loc := locSet S.loc d (over cs o l) }) hM tr hM.inj (fun γ q h => by rw [e4]; exact hM.bnd _ _ h) hM.memlt hM.toklt (fun γ d' h => by
    simp only [locGet_set]
    split
    · rfl
    · exact hM.locin _ _ h) (fun _ h => h) (Nat.le_refl _) ?_ ?_ ?_, tr⟩
  · intro c k h
    exact .inl ⟨h, fun γ a => e5 γ (by rintro rfl; rw [ho] at a; cases a)⟩
  · intro d' cs' h
    simp only [locGet_set] at h
    split at h
    · rename_i hbc
      subst hbc
      cases h
      obtain ⟨γ, hγ, hrow⟩ := hM.loc d cs hS
      obtain rfl := hM.inj _ _ _ hγ ho
      exact .inr ⟨γ, ho, hrow.write tr rfl hl hb hr⟩
    · rename_i hbc
      exact .inl ⟨h, fun γ a => ⟨a, e5 γ (by rintro rfl; rw [ho] at a; cases a; exact hbc rfl)⟩⟩
  · intro t e z h
    exact .inl ⟨h, fun γ a => ⟨a, e5 γ (by rintro rfl; rw [ho] at a; cases a)⟩⟩

/-- The room behind a row that may be appended to is filled. -/
theorem MRel.writeTok {X ow S w t β e n us vs fr} {z : Nat × Nat} (hM : MRel X ow S w) (hS : S.toks[t]? = some (e, z)) (ho : ow β = some (.tok t)) (hh : w.heap[β]? = some (.cells vs z.2 fr))
    (hz : z.1 ≠ 0) (hl : us.length = n * z.1) (hb : (e + n) * z.1 ≤ vs.size) :
    MRel X ow { S with toks := S.toks.set t (e + n, z) } (w.setCells β (e * z.1) us) ∧ Tr X ow S.toks w ow (S.toks.set t (e + n, z)) (w.setCells β (e * z.1) us) := by
  obtain ⟨e1, e2, e3, e4, e5⟩ := setCells_misc β us (e * z.1) w
  have hmul : (e + n) * z.1 = e * z.1 + n * z.1 := Nat.add_mul _ _ _
  have hrow := setCells_row β z.2 fr us (e * z.1) vs w hh (by omega)
  have htl : t < S.toks.length := (List.getElem?_eq_some_iff.1 hS).1
  have tr : Tr X ow S.toks w ow (S.toks.set t (e + n, z)) (w.setCells β (e * z.1) us) :=
    { st := fun γ o u h k => by
        constructor
        · by_cases hγ : γ = β
          · subst hγ
            have hlt : o < e * z.1 := by
              apply Nat.lt_of_not_le
              intro hle
              refine k (.inr ?_)
              unfold Mut
              rw [ho]
              exact ⟨e, z, hS, hle⟩
            rw [World.cell?_setCells_out γ us (e * z.1) w ⟨γ, o, none⟩ (fun _ _ => .inl hlt)]
            exact h
          · rw [cell_ne (e5 γ hγ)]; exact h
        · rintro (hx | hx)
          · exact k (.inl hx)
          · refine k (.inr ?_)
            unfold Mut at *
            revert hx
            cases hq : ow γ with
            | none => exact id
            | some q =>
              cases q with
              | mem b => exact id
              | loc d => exact id
              | tok t' =>
                rintro ⟨e', z', h1, h2⟩
                rw [List.getElem?_set] at h1
                split at h1
                · rename_i ht
                  subst ht
                  simp [htl] at h1
                  obtain ⟨rfl, rfl⟩ := h1
                  exact ⟨e, z, hS, by omega⟩
                · exact ⟨e', z', h1, h2⟩
      mem := fun γ _ h => .inr ⟨h, shape_setCells w β _ us γ⟩
      tl := by simp
      tok := fun t' e' z' _ h => by
        rw [List.getElem?_set] at h
        split at h
        · rename_i ht
          subst ht
          simp [htl] at h
          obtain ⟨rfl, rfl⟩ := h
          refine ⟨e, hS, by omega, fun h0 => absurd h0 hz, fun heq γ sh a b => ⟨a, ?_⟩⟩
          obtain rfl := hM.inj _ _ _ a ho
          unfold World.shape? at *
          rw [hrow]
          rw [hh] at b
          simp at b ⊢
          rw [← b, over_length _ _ _ (by simp; omega)]
          simp
        · rename_i ht
          refine ⟨e', h, Nat.le_refl _, fun _ => rfl, fun _ γ sh a b => ⟨a, ?_⟩⟩
          unfold World.shape? at *
          rw [e5 γ (by rintro rfl; rw [ho] at a; cases a; exact ht rfl)]
          exact b
      fr := fun γ _ hn => ⟨hn, e5 γ (by rintro rfl; rw [ho] at hn; cases hn)⟩
      size := by rw [e4]; exact Nat.le_refl _
      os := e1
      tape := e2
      output := e3 }
  refine ⟨MRel.next (S' := { S with toks := S.toks.set t (e + n, z) }) hM tr hM.inj (fun γ q h => by rw [e4]; exact hM.bnd _ _ h) hM.memlt (fun γ q h => by simp; exact hM.toklt _ _ h) hM.locin (fun _ h => dead_set hz h) (Nat.le_refl _) ?_ ?_ ?_, tr⟩
  · intro c k h
    exact .inl ⟨h, fun γ a => e5 γ (by rintro rfl; rw [ho] at a; cases a)⟩
  · intro c cs' h
    exact .inl ⟨h, fun γ a => ⟨a, e5 γ (by rintro rfl; rw [ho] at a; cases a)⟩⟩
  · intro t' e' z' h
    simp only [List.getElem?_set] at h
    split at h
    · rename_i ht
      subst ht
      simp [htl] at h
      obtain ⟨rfl, rfl⟩ := h
      obtain ⟨γ, vs', fr', ho', hh', hle, hf⟩ := hM.tok t e z hS hz
      obtain rfl := hM.inj _ _ _ ho' ho
      rw [hh] at hh'
      cases hh'
      have hov : (over vs.toList (e * z.1) us).length = vs.size := by rw [over_length vs.toList _ us (by simp; omega)]; simp
      refine .inr ⟨γ, _, fr, ho, hrow, ?_, ?_⟩
      · simp only [List.size_toArray, hov]
        omega
      · omega
    · rename_i ht
      exact .inl ⟨h, fun γ a => ⟨a, e5 γ (by rintro rfl; rw [ho] at a; cases a; exact ht rfl)⟩⟩
end Go.Ag
/- An abstract machine for Go functions, fifth part: operations that only compute, and reads. -/
namespace Go.Ag
open Go
set_option linter.unusedVariables false
set_option linter.unusedSimpArgs false

/-- What an operation on values comes to, in terms of ours. -/
def OpOk (X : Cells) (ow : Ow) (S : Mem) (w : World) (res : Result Value) (r : RV) (S' : Mem) (D : Option Nat) : Prop :=
  ∃ v ow' w', res = .ok v w' ∧ MRel X ow' S' w' ∧ Tr X ow S.toks w ow' S'.toks w' ∧
    (∀ β d, ow β = some (.loc d) → some d ≠ D → ow' β = some (.loc d)) ∧ RRep (FX X ow' S'.toks) w' ow' S'.toks r v

section
variable {P : Program} {X : Cells} {ow : Ow} {S : Mem} {w : World}

theorem OpOk.same (hM : MRel X ow S w) {res : Result Value} {v : Value} {r : RV} (h : res = .ok v w) (hr : RRep (FX X ow S.toks) w ow S.toks r v) : OpOk X ow S w res r S none :=
  ⟨v, ow, w, h, hM, Tr.refl _ _ _ _, fun _ _ h _ => h, hr⟩
theorem OpOk.samef (hM : MRel X ow S w) {res : Result Value} {v : Value} {r : RV} (h : res = .ok v w) (hr : FRep (FX X ow S.toks) w ow S.toks r v) : OpOk X ow S w res r S none :=
  OpOk.same hM h (.inr hr)

def RV.solid : RV → Bool
  | .top | .p .top | .la _ _ => false
  | _ => true

theorem RRep.f {F ow T} {r v} (h : RRep F w ow T r v) (hf : r.fc = true) : FRep F w ow T r v := by
  rcases h with ⟨d, off, β, rfl, _, _⟩ | h
  · simp [RV.fc] at hf
  · exact h

theorem cells_rep {F ow T} {r : RV} {v : Value} (h : FRep F w ow T r v) (hs : r.solid = true) :
    v.cells.size = r.cells.length ∧ ∀ (k : Nat) x u, r.cells[k]? = some x → v.cells[k]? = some u → FRep F w ow T x u := by
  have one : ∀ {r : RV} {v : Value}, FRep F w ow T r v → r.cells = [r] → v.cells = #[v] →
      v.cells.size = r.cells.length ∧ ∀ (k : Nat) x u, r.cells[k]? = some x → v.cells[k]? = some u → FRep F w ow T x u := by
    intro r v h h1 h2
    rw [h1, h2]
    refine ⟨rfl, fun k x u a b => ?_⟩
    cases k with
    | zero => simp at a b; subst a; subst b; exact h
    | succ k => simp at a
  cases h with
  | p hx =>
    cases hx with
    | agg cs vs hl hh =>
      refine ⟨by simp [RV.cells, Value.cells, hl], fun k x u a b => ?_⟩
      simp only [RV.cells, List.getElem?_map] at a
      cases hc : cs[k]? with
      | none => simp [hc] at a
      | some y =>
        simp [hc] at a
        subst a
        exact .p (hh k y u hc b)
    | top v => simp [RV.solid] at hs
    | bool b => exact one (.p (.bool b)) rfl rfl
    | int k n => exact one (.p (.int k n)) rfl rfl
    | str s => exact one (.p (.str s)) rfl rfl
    | sl l a cap esz u h1 h2 h3 h4 h5 => exact one (.p (.sl l a cap esz u h1 h2 h3 h4 h5)) rfl rfl
    | tup cs vs hl hh => exact one (.p (.tup cs vs hl hh)) rfl rfl
    | ro cs β o u hc hu => exact one (.p (.ro cs β o u hc hu)) rfl rfl
    | nilp => exact one (.p .nilp) rfl rfl
    | nilm => exact one (.p .nilm) rfl rfl
    | nilf => exact one (.p .nilf) rfl rfl
    | nili => exact one (.p .nili) rfl rfl
    | ab b => exact one (.p (.ab b)) rfl rfl
    | fn f xs ys vs us hv hu h h' => exact one (.p (.fn f xs ys vs us hv hu h h')) rfl rfl
    | iface t x v h => exact one (.p (.iface t x v h)) rfl rfl
  | agg cs vs hl hh => exact ⟨by simp [RV.cells, Value.cells, hl], fun k x u a b => hh k x u a b⟩
  | top v => simp [RV.solid] at hs
  | nsl b a h => exact one (.nsl b a h) rfl rfl
  | own l t v ht h h' => refine one (.own l t v ht h h') rfl ?_; cases h; rfl
  | ptr b off β h => exact one (.ptr b off β h) rfl rfl
  | rs b off len z β cap h hc => exact one (.rs b off len z β cap h hc) rfl rfl
  | mp b β h => exact one (.mp b β h) rfl rfl
  | od l t a cap h hc => exact one (.od l t a cap h hc) rfl rfl
  | up p => exact one (.up p) rfl rfl
  | tup cs vs hl hh => exact one (.tup cs vs hl hh) rfl rfl
  | fn f xs ys vs us hv hu h h' => exact one (.fn f xs ys vs us hv hu h h') rfl rfl
  | iface t x v h => exact one (.iface t x v h) rfl rfl

theorem cell_one {F ow T} {r : RV} {v : Value} (h : FRep F w ow T r v) (hs : r.isCell = true) : v.oneCell' = true := by
  cases h with
  | p hx => cases hx <;> first | rfl | simp [RV.isCell, PV.isCell] at hs
  | own l t v ht h h' => cases h; rfl
  | agg | tup | top => simp [RV.isCell] at hs
  | _ => rfl

/-! ### Integers, strings -/
def intBin (o : BinOp) (k : IntKind) (a b : Int) : Option PV :=
  match o with
  | .add => some (.int k (k.wrap (a + b)))
  | .sub => some (.int k (k.wrap (a - b)))
  | .mul => some (.int k (k.wrap (a * b)))
  | .quo => if b = 0 then none else some (.int k (k.wrap (a.tdiv b)))
  | .rem => if b = 0 then none else some (.int k (a.tmod b))
  | .and => some (.int k (k.wrap (BitVec.ofInt k.bits a &&& BitVec.ofInt k.bits b).toNat))
  | .or => some (.int k (k.wrap (BitVec.ofInt k.bits a ||| BitVec.ofInt k.bits b).toNat))
  | .xor => some (.int k (k.wrap (BitVec.ofInt k.bits a ^^^ BitVec.ofInt k.bits b).toNat))
  | .andNot => some (.int k (k.wrap (BitVec.ofInt k.bits a &&& ~~~ (BitVec.ofInt k.bits b)).toNat))
  | .eql => some (.bool (decide (a = b)))
  | .neq => some (.bool (!decide (a = b)))
  | .lss => some (.bool (decide (a < b)))
  | .leq => some (.bool (decide (a ≤ b)))
  | .gtr => some (.bool (decide (b < a)))
  | .geq => some (.bool (decide (b ≤ a)))
  | _ => none
def intShift (o : BinOp) (k : IntKind) (a : Int) (b : Int) : Option PV :=
  if b < 0 then none else
  match o with
  | .shl => some (.int k (k.wrap (a * 2 ^ (min b.toNat k.bits))))
  | .shr => some (.int k (a.fdiv (2 ^ (min b.toNat k.bits))))
  | _ => none
def strBin (o : BinOp) (a b : List UInt8) : Option PV :=
  match o with
  | .add => if a.length + b.length ≤ 4611686018427387904 then some (.str (a ++ b)) else none
  | .eql => some (.bool (decide (a = b)))
  | .neq => some (.bool (!decide (a = b)))
  | .lss => some (.bool (Op.bytesLess a b))
  | .leq => some (.bool (Op.bytesLess a b || decide (a = b)))
  | .gtr => some (.bool (!(Op.bytesLess a b || decide (a = b))))
  | .geq => some (.bool (!Op.bytesLess a b))
  | _ => none
/-- What kind of type is compared. -/
inductive TK where
  | num | bool | str | ptr | ifc | ifcc | sl | mp | fn | other
  deriving DecidableEq, Inhabited
def nilBin (o : BinOp) (isnil : Bool) : Option PV :=
  match o with
  | .eql => some (.bool isnil)
  | .neq => some (.bool (!isnil))
  | _ => none
def intA (o : BinOp) (k : IntKind) (a : Int) (k' : IntKind) (b : Int) : Option PV :=
  if o = .shl ∨ o = .shr then intShift o k a b else if k = k' then intBin o k a b else none
def slNil : RV → Option (Option Bool)
  | .nsl true => some (some true)
  | .nsl false => some none
  | .p (.sl []) => some none
  | .p (.sl (_ :: _)) => some (some false)
  | .own [] _ => some none
  | .own (_ :: _) _ => some (some false)
  | .rs _ _ _ _ => some (some false)
  | _ => none
def nilBinO (o : BinOp) : Option Bool → Option PV
  | some b => nilBin o b
  | none => match o with
    | .eql | .neq => some .ab
    | _ => none
def binA (o : BinOp) (tk : TK) : RV → RV → Option PV
  | .p (.int k a), .p (.int k' b) => intA o k a k' b
  | .p (.str a), .p (.str b) => strBin o a b
  | .p (.bool a), .p (.bool b) => if tk = .bool then nilBin o (decide (a = b)) else none
  | .ptr b d, .ptr b' d' => if tk = .ptr ∧ b = b' ∧ d = d' then nilBin o true else none
  | .p .nilp, .p .nilp => if tk = .ptr then nilBin o true else none
  | .ptr _ _, .p .nilp => if tk = .ptr then nilBin o false else none
  | .p (.ro _), .p .nilp => if tk = .ptr then nilBin o false else none
  | .p .nili, .p .nili => if tk = .ifcc then nilBin o true else none
  | .iface _ _, .p .nili => if tk = .ifcc then nilBin o false else none
  | .p (.iface _ _), .p .nili => if tk = .ifcc then nilBin o false else none
  | x, .nsl true => if tk = .sl then match slNil x with
    | some q => nilBinO o q
    | none => none else none
  | _, _ => none

theorem run_intBin {o : BinOp} {t : TypeId} {k : IntKind} {a b : Int} {x : PV} (h : intBin o k a b = some x) (hn : o ≠ .shl ∧ o ≠ .shr) :
    ∃ v, (binOp o t (.int k a) (.int k b)).run P w = .ok v w ∧ ∀ F, Rep F w x v := by
  cases o <;> simp only [intBin, Option.some.injEq, reduceCtorEq] at h
  case quo =>
    split at h
    · cases h
    · rename_i hb
      cases h
      exact ⟨_, by simp [binOp, Op.intDiv, hb], fun F => .int _ _⟩
  case rem =>
    split at h
    · cases h
    · rename_i hb
      cases h
      exact ⟨_, by simp [binOp, Op.intDiv, hb], fun F => .int _ _⟩
  all_goals
    subst h
    refine ⟨_, by simp only [binOp, Op.intArith, Op.intBits, Op.intCmp, ne_eq, not_true, if_false, Sem.run_pure]; rfl, fun F => ?_⟩
    first
    | exact .int _ _
    | exact .bool _
    | (have e : ∀ (x y : Int), (x == y) = decide (x = y) := fun x y => rfl; rw [← e]; exact .bool _)
    | (have e : ∀ (x y : Int), (x != y) = !decide (x = y) := fun x y => rfl; rw [← e]; exact .bool _)

theorem run_shift {o : BinOp} {t : TypeId} {k k' : IntKind} {a b : Int} {x : PV} (h : intShift o k a b = some x) (hn : o = .shl ∨ o = .shr) :
    ∃ v, (binOp o t (.int k a) (.int k' b)).run P w = .ok v w ∧ ∀ F, Rep F w x v := by
  unfold intShift at h
  split at h
  · cases h
  · rename_i hb
    rcases hn with rfl | rfl <;> simp only [Option.some.injEq] at h <;> subst h <;>
      exact ⟨_, by simp only [binOp, Op.shift, if_neg hb, Sem.run_pure], fun F => .int _ _⟩

theorem run_strBin {o : BinOp} {t : TypeId} {a b : List UInt8} {x : PV} (h : strBin o a b = some x) :
    ∃ v, (binOp o t (.string ⟨⟨a⟩⟩) (.string ⟨⟨b⟩⟩)).run P w = .ok v w ∧ ∀ F, Rep F w x v := by
  have e : ∀ l : List UInt8, (ByteArray.mk ⟨l⟩).toList = l := ByteArray.toList_mk
  have sz : ∀ l : List UInt8, (ByteArray.mk ⟨l⟩).size = l.length := fun l => rfl
  have eq : ∀ x y : List UInt8, (x == y) = decide (x = y) := fun x y => by
    by_cases h : x = y <;> simp [h]
  cases o <;> simp only [strBin, Option.some.injEq, reduceCtorEq] at h
  case add =>
    split at h
    · rename_i hl
      cases h
      refine ⟨.string ⟨⟨a ++ b⟩⟩, ?_, fun F => .str _⟩
      have : ¬ ((((a.length + b.length : Nat)) : Int) > 9223372036854775807) := by omega
      have happ : (ByteArray.mk ⟨a⟩ ++ ByteArray.mk ⟨b⟩) = ByteArray.mk ⟨a ++ b⟩ := by
        apply ByteArray.ext
        simp
      simp only [binOp, Op.stringOp, IntKind.max_i64, sz]
      rw [if_neg this, happ]
      rfl
    · cases h
  all_goals
    subst h
    refine ⟨_, by simp only [binOp, Op.stringOp, e, Sem.run_pure]; rfl, fun F => ?_⟩
    try rw [eq]
    exact .bool _

theorem run_equal_bool (t : TypeId) (a b : Bool) (h : P.underlying t = some .bool) : (Op.equal t (.bool a) (.bool b)).run P w = .ok (a == b) w := by
  have : ∀ d, (Op.equalIn (d + 1) t (.bool a) (.bool b)).run P w = .ok (a == b) w := fun d => by simp [Op.equalIn, run_underlying h]
  exact this 9999
theorem run_equal_nn (t : TypeId) (e) (h : P.underlying t = some (.interface e)) : (Op.equal t .nilIface .nilIface).run P w = .ok true w := by
  have : ∀ d, (Op.equalIn (d + 1) t .nilIface .nilIface).run P w = .ok true w := fun d => by simp [Op.equalIn, run_underlying h]
  exact this 9999
theorem run_equal_in (t : TypeId) (e) (q v) (h : P.underlying t = some (.interface e)) : (Op.equal t (.iface q v) .nilIface).run P w = .ok false w := by
  have : ∀ d, (Op.equalIn (d + 1) t (.iface q v) .nilIface).run P w = .ok false w := fun d => by simp [Op.equalIn, run_underlying h]
  exact this 9999

theorem run_binA {o : BinOp} {t : TypeId} {tk : TK} {r1 r2 : RV} {x : PV} {v1 v2 : Value} {F ow T} {xo yo : Operand}
    (htk : match tk with
      | .bool => P.underlying t = some .bool
      | .ptr => P.underlying t = some (.pointer (P.pointee t)) ∧ ∃ j, P.info? (P.pointee t) = some j
      | .ifcc => (∃ e, P.underlying t = some (.interface e)) ∧ ∃ c, yo = .const c
      | .sl => ∃ e, P.underlying t = some (.slice e)
      | _ => True)
    (hb : binA o tk r1 r2 = some x) (hinj : ∀ β β' o, ow β = some o → ow β' = some o → β = β') (hal : ∀ b off, tk = .ptr → r1 = .ptr b off → ¬ Dead T b)
    (h1 : FRep F w ow T r1 v1) (h2 : FRep F w ow T r2 v2) :
    ∃ v, (do eqGuard o t xo yo v1 v2; binOp o t v1 v2 : Sem Value).run P w = .ok v w ∧ Rep F w x v := by
  have nb : ∀ {b : Bool} {x : PV}, nilBin o b = some x → (o = .eql ∧ x = .bool b) ∨ (o = .neq ∧ x = .bool (!b)) := by
    intro b x h
    cases o <;> simp [nilBin] at h <;> simp [h]
  unfold binA at hb
  split at hb
  · -- integers
    rename_i k a k' b
    cases h1 with | p h1 => cases h1 with | int => cases h2 with | p h2 => cases h2 with | int =>
    rw [eqGuard_at_int]
    unfold intA at hb
    split at hb
    · rename_i ho
      obtain ⟨v, e1, e2⟩ := run_shift (P := P) (w := w) (t := t) (k' := k') hb ho
      exact ⟨v, by simpa using e1, e2 F⟩
    · rename_i ho
      split at hb
      · rename_i hk
        subst hk
        obtain ⟨v, e1, e2⟩ := run_intBin (P := P) (w := w) (t := t) hb (by simpa using ho)
        exact ⟨v, by simpa using e1, e2 F⟩
      · cases hb
  · rename_i a b
    cases h1 with | p h1 => cases h1 with | str => cases h2 with | p h2 => cases h2 with | str =>
    rw [eqGuard_at_string]
    obtain ⟨v, e1, e2⟩ := run_strBin (P := P) (w := w) (t := t) hb
    exact ⟨v, by simpa using e1, e2 F⟩
  · rename_i a b
    cases h1 with | p h1 => cases h1 with | bool => cases h2 with | p h2 => cases h2 with | bool =>
    rw [eqGuard_at_bool]
    split at hb
    · rename_i ht
      subst ht
      simp only at htk
      have e : (a == b) = decide (a = b) := by cases a <;> cases b <;> rfl
      rcases nb hb with ⟨rfl, rfl⟩ | ⟨rfl, rfl⟩ <;> rw [← e] <;>
        exact ⟨_, by simp only [binOp, Sem.run_bind, Sem.run_pure, Result.andThen_ok, run_equal_bool (P := P) (w := w) t a b htk], .bool _⟩
    · cases hb
  · rename_i b off b' off'
    split at hb
    · rename_i hc
      obtain ⟨ht, rfl, rfl⟩ := hc
      subst ht
      simp only at htk
      obtain ⟨hu, q, hq⟩ := htk
      cases h1 with | ptr _ _ β ho => cases h2 with | ptr _ _ β' ho' =>
      have hnd := hal _ _ rfl rfl
      obtain rfl := hinj _ _ _ (ho.resolve_left hnd) (ho'.resolve_left hnd)
      rw [eqGuard_at_pointer]
      have he : (Op.equal t (.pointer (some ⟨β, off, none⟩)) (.pointer (some ⟨β, off, none⟩))).run P w = .ok true w := by
        have h : ∀ d : Nat, (Op.equalIn (d + 1) t (.pointer (some ⟨β, off, none⟩)) (.pointer (some ⟨β, off, none⟩))).run P w = .ok true w := fun d => by
          simp [Op.equalIn, run_underlying hu, sizeOf, typeInfo, hq, run_sameAddr_same]
        exact h 9999
      rcases nb hb with ⟨rfl, rfl⟩ | ⟨rfl, rfl⟩ <;>
        exact ⟨_, by simp only [binOp, Sem.run_bind, Sem.run_pure, Result.andThen_ok, he], .bool _⟩
    · cases hb
  · split at hb
    · rename_i ht
      subst ht
      simp only at htk
      cases h1 with | p h1 => cases h1 with | nilp => cases h2 with | p h2 => cases h2 with | nilp =>
      rw [eqGuard_at_pointer]
      rcases nb hb with ⟨rfl, rfl⟩ | ⟨rfl, rfl⟩
      · exact ⟨_, by simp [run_eql_pointer_nil w t _ htk.1], .bool _⟩
      · exact ⟨_, by simp [run_neq_pointer_nil w t _ htk.1], .bool _⟩
    · cases hb
  · split at hb
    · rename_i ht
      subst ht
      simp only at htk
      cases h1 with | ptr b off β ho => cases h2 with | p h2 => cases h2 with | nilp =>
      rw [eqGuard_at_pointer]
      rcases nb hb with ⟨rfl, rfl⟩ | ⟨rfl, rfl⟩
      · exact ⟨_, by simp [run_eql_pointer_nil w t _ htk.1], .bool _⟩
      · exact ⟨_, by simp [run_neq_pointer_nil w t _ htk.1], .bool _⟩
    · cases hb
  · split at hb
    · rename_i ht
      subst ht
      simp only at htk
      cases h1 with | p h1 => cases h1 with | ro => cases h2 with | p h2 => cases h2 with | nilp =>
      rw [eqGuard_at_pointer]
      rcases nb hb with ⟨rfl, rfl⟩ | ⟨rfl, rfl⟩
      · exact ⟨_, by simp [run_eql_pointer_nil w t _ htk.1], .bool _⟩
      · exact ⟨_, by simp [run_neq_pointer_nil w t _ htk.1], .bool _⟩
    · cases hb
  · split at hb
    · rename_i ht
      subst ht
      simp only at htk
      obtain ⟨⟨e, hu⟩, c, rfl⟩ := htk
      cases h2 with | p h2 => cases h2 with | nili =>
      cases h1 with | p h1 => cases h1 with | nili =>
      rw [eqGuard_nil_constR]
      rcases nb hb with ⟨rfl, rfl⟩ | ⟨rfl, rfl⟩ <;>
        exact ⟨_, by simp only [binOp, Sem.run_bind, Sem.run_pure, Result.andThen_ok, run_equal_nn (P := P) (w := w) t e hu, run_equal_in (P := P) (w := w) t e _ _ hu], .bool _⟩
    · cases hb
  · split at hb
    · rename_i ht
      subst ht
      simp only at htk
      obtain ⟨⟨e, hu⟩, c, rfl⟩ := htk
      cases h2 with | p h2 => cases h2 with | nili =>
      cases h1 with | iface =>
      rw [eqGuard_at_iface]
      rcases nb hb with ⟨rfl, rfl⟩ | ⟨rfl, rfl⟩ <;>
        exact ⟨_, by simp only [binOp, Sem.run_bind, Sem.run_pure, Result.andThen_ok, run_equal_nn (P := P) (w := w) t e hu, run_equal_in (P := P) (w := w) t e _ _ hu], .bool _⟩
    · cases hb
  · split at hb
    · rename_i ht
      subst ht
      simp only at htk
      obtain ⟨⟨e, hu⟩, c, rfl⟩ := htk
      cases h2 with | p h2 => cases h2 with | nili =>
      cases h1 with | p h1 => cases h1 with | iface =>
      rw [eqGuard_at_iface]
      rcases nb hb with ⟨rfl, rfl⟩ | ⟨rfl, rfl⟩ <;>
        exact ⟨_, by simp only [binOp, Sem.run_bind, Sem.run_pure, Result.andThen_ok, run_equal_nn (P := P) (w := w) t e hu, run_equal_in (P := P) (w := w) t e _ _ hu], .bool _⟩
    · cases hb
  · split at hb
    · rename_i ht
      subst ht
      simp only at htk
      obtain ⟨e, hu⟩ := htk
      cases h2 with | nsl _ a2 ha2 =>
      obtain rfl := ha2 rfl
      split at hb
      · rename_i q hq
        have hv : ∃ a l c, v1 = .slice a l c ∧ ∀ b, q = some b → a.isNone = b := by
          unfold slNil at hq
          split at hq
          · cases hq; cases h1 with | nsl _ a ha => exact ⟨a, 0, 0, rfl, fun b hb => by cases hb; rw [ha rfl]; rfl⟩
          · cases hq; cases h1 with | nsl _ a ha => exact ⟨a, 0, 0, rfl, fun b hb => by cases hb⟩
          · cases hq; cases h1 with | p h1 => cases h1; exact ⟨_, _, _, rfl, fun b hb => by cases hb⟩
          · cases hq
            cases h1 with | p h1 => cases h1 with | sl _ a cap esz u g1 g2 g3 g4 g5 =>
            rcases g4 with g4 | ⟨β, o, rfl, _⟩
            · cases g4
            · exact ⟨_, _, _, rfl, fun b hb => by cases hb; rfl⟩
          · cases hq; cases h1 with | own _ _ _ ht h1 h' => cases h1; exact ⟨_, _, _, rfl, fun b hb => by cases hb⟩
          · cases hq
            cases h1 with | own _ _ _ ht h1 h' => cases h1 with | sl _ a cap esz u g1 g2 g3 g4 g5 =>
            rcases g4 with g4 | ⟨β, o, rfl, _⟩
            · cases g4
            · exact ⟨_, _, _, rfl, fun b hb => by cases hb; rfl⟩
          · cases hq; cases h1 with | rs => exact ⟨_, _, _, rfl, fun b hb => by cases hb; rfl⟩
          · cases hq
        obtain ⟨a, l, c, rfl, hb'⟩ := hv
        rw [eqGuard_at_slice]
        have he := run_equal_slice_nil (P := P) w t e a l c hu
        cases q with
        | some b =>
          obtain rfl := hb' b rfl
          simp only [nilBinO] at hb
          rcases nb hb with ⟨rfl, rfl⟩ | ⟨rfl, rfl⟩ <;>
            exact ⟨_, by simp only [binOp, Sem.run_bind, Sem.run_pure, Result.andThen_ok, he], .bool _⟩
        | none =>
          simp only [nilBinO] at hb
          split at hb
          · cases hb; exact ⟨.bool a.isNone, by simp only [binOp, Sem.run_bind, Sem.run_pure, Result.andThen_ok, he], .ab _⟩
          · cases hb; exact ⟨.bool (!a.isNone), by simp only [binOp, Sem.run_bind, Sem.run_pure, Result.andThen_ok, he], .ab _⟩
          · cases hb
      · cases hb
    · cases hb
  · cases hb
end
end Go.Ag
/- An abstract machine for Go functions, sixth part: reading and writing places, parts of values. -/
namespace Go.Ag
open Go
set_option linter.unusedVariables false
set_option linter.unusedSimpArgs false
section
variable {P : Program} {X : Cells} {ow : Ow} {S : Mem} {w : World}

theorem sub_spec {α : Type} {xs ys : List α} {i n : Nat} (h : sub xs i n = some ys) : ys.length = n ∧ i + n ≤ xs.length ∧ ∀ k, k < n → ys[k]? = xs[i + k]? := by
  unfold sub at h
  split at h
  · cases h
    refine ⟨by simp; omega, by assumption, fun k hk => ?_⟩
    rw [List.getElem?_take, if_pos hk, List.getElem?_drop]
  · cases h

/-! ### Reads -/
/-- The value of one cell or of several. -/
def ldCells (n : Option Nat) (cs : List RV) (o : Nat) : Option RV :=
  match n with
  | none => cs[o]?
  | some n => (sub cs o n).map .agg
def ldPV (n : Option Nat) (cs : List PV) : Option PV :=
  match n with
  | none => cs[0]?
  | some n => (sub cs 0 n).map .agg
/-- How a type is read: one cell, or an aggregate of so many. -/
def ldKind (P : Program) (t : TypeId) : Option (Option Nat) :=
  match P.underlying t with
  | none => none
  | some (.struct _) | some (.array _ _) => match P.info? t with
    | some i => some (some i.size)
    | none => none
  | some _ => some none

theorem run_isAgg' {t : TypeId} {d : TypeDesc} (h : P.underlying t = some d) : (isAgg t).run P w = .ok (match d with | .struct _ | .array _ _ => true | _ => false) w := by
  unfold isAgg
  simp only [Sem.run_bind, run_underlying h, Result.andThen_ok]
  cases d <;> rfl
theorem run_sizeOf' {t : TypeId} {i : TypeInfo} (h : P.info? t = some i) : (sizeOf t).run P w = .ok i.size w := by
  simp [sizeOf, typeInfo, h]

theorem ldKind_cases {t : TypeId} {n : Option Nat} (h : ldKind P t = some n) :
    (n = none ∧ (isAgg t).run P w = .ok false w) ∨ ∃ i, n = some i.size ∧ P.info? t = some i ∧ (isAgg t).run P w = .ok true w := by
  unfold ldKind at h
  split at h
  · cases h
  · rename_i fs hu
    split at h
    · rename_i i hi; cases h; exact .inr ⟨i, rfl, hi, run_isAgg' hu⟩
    · cases h
  · rename_i a b hu
    split at h
    · rename_i i hi; cases h; exact .inr ⟨i, rfl, hi, run_isAgg' hu⟩
    · cases h
  · rename_i d h1 h2 hu
    cases h
    refine .inl ⟨rfl, ?_⟩
    rw [run_isAgg' hu]
    cases d <;> first | rfl | exact absurd rfl (h1 _) | exact absurd rfl (h2 _ _)

theorem addr_add (b o n : Nat) : Addr.add ⟨b, o, none⟩ n = ⟨b, o + n, none⟩ := Addr.add_lit b o n

/-- A read of cells that are there. -/
theorem run_loadVar_at {t : TypeId} {n : Option Nat} (hk : ldKind P t = some n) (β o : Nat) (u : Nat → Value)
    (hc : ∀ k, k < n.getD 1 → w.cell? ⟨β, o + k, none⟩ = some (u k)) :
    (loadVar t ⟨β, o, none⟩).run P w = .ok (match n with | none => u 0 | some m => .agg ((List.range m).map u).toArray) w := by
  rcases ldKind_cases (w := w) hk with ⟨rfl, ha⟩ | ⟨i, rfl, hi, ha⟩
  · have := hc 0 (by simp)
    simp [loadVar, ha, show w.cell? ⟨β, o, none⟩ = some (u 0) from this]
  · have := run_loadCells (P := P) w ⟨β, o, none⟩ i.size u (fun j hj => by rw [addr_add]; exact hc j hj)
    simp [loadVar, ha, run_sizeOf' hi, this]

theorem frep_range {F ow T} {n : Nat} {cs : List RV} {u : Nat → Value} (hl : cs.length = n) (h : ∀ (k : Nat) x, cs[k]? = some x → FRep F w ow T x (u k)) :
    FRep F w ow T (.agg cs) (.agg ((List.range n).map u).toArray) := by
  refine .agg cs _ (by simp [hl]) (fun k x v a b => ?_)
  have hk : k < n := by rw [← hl]; exact (List.getElem?_eq_some_iff.1 a).1
  simp [hk] at b
  subst b
  exact h k x a
theorem rep_range {F} {n : Nat} {cs : List PV} {u : Nat → Value} (hl : cs.length = n) (h : ∀ (k : Nat) x, cs[k]? = some x → Rep F w x (u k)) :
    Rep F w (.agg cs) (.agg ((List.range n).map u).toArray) := by
  refine .agg cs _ (by simp [hl]) (fun k x v a b => ?_)
  have hk : k < n := by rw [← hl]; exact (List.getElem?_eq_some_iff.1 a).1
  simp [hk] at b
  subst b
  exact h k x a

/-- A read out of a row of one's own. -/
theorem ldRow_same {t : TypeId} {n : Option Nat} (hk : ldKind P t = some n) {β o : Nat} {cs : List RV} {r : RV}
    (hr : RowRep (FX X ow S.toks) w ow S.toks β cs) (h : ldCells n cs o = some r) :
    ∃ v, (loadVar t ⟨β, o, none⟩).run P w = .ok v w ∧ FRep (FX X ow S.toks) w ow S.toks r v := by
  obtain ⟨vs, el, fr, h1, h2, h3, h4⟩ := hr
  have hcell : ∀ k, k < vs.size → w.cell? ⟨β, k, none⟩ = some (vs.getD k undef) := fun k hk => by
    simp [World.cell?, h1, hk]
  cases n with
  | none =>
    simp only [ldCells] at h
    have hl := (List.getElem?_eq_some_iff.1 h).1
    refine ⟨_, run_loadVar_at hk β o (fun k => vs.getD (o + k) undef) (fun k hk => by
      simp at hk; subst hk; exact hcell _ (by omega)), ?_⟩
    refine h4 o r _ h ?_
    simp [show o < vs.size by omega]
  | some m =>
    simp only [ldCells] at h
    cases hsb : sub cs o m with
    | none => simp [hsb] at h
    | some ys =>
      simp [hsb] at h
      subst h
      obtain ⟨e1, e2, e3⟩ := sub_spec hsb
      refine ⟨_, run_loadVar_at hk β o (fun k => vs.getD (o + k) undef) (fun k hk => hcell _ (by simp at hk; omega)), ?_⟩
      refine frep_range e1 (fun k x hx => ?_)
      have hk : k < m := by rw [← e1]; exact (List.getElem?_eq_some_iff.1 hx).1
      rw [e3 k hk] at hx
      refine h4 (o + k) x _ hx ?_
      simp [show o + k < vs.size by omega]

/-- The address's own kinds. -/
def ldA (n : Option Nat) (r : RV) (S : Mem) : Option RV :=
  match r with
  | .p (.ro cs) => (ldPV n cs).map .p
  | .ptr b o => match S.mem[b]? with
    | some (.cells _ cs) => ldCells n cs o
    | _ => none
  | .la d o => match locGet S.loc d with
    | some cs => ldCells n cs o
    | none => none
  | _ => none

theorem ld_same (hM : MRel X ow S w) {t : TypeId} {n : Option Nat} (hk : ldKind P t = some n) {a : RV} {v : Value} {r : RV}
    (ha : RRep (FX X ow S.toks) w ow S.toks a v) (h : ldA n a S = some r) : ∃ u, (Instr.loadAt t v).run P w = .ok u w ∧ FRep (FX X ow S.toks) w ow S.toks r u := by
  have go : ∀ β o, (∃ u, (loadVar t ⟨β, o, none⟩).run P w = .ok u w ∧ FRep (FX X ow S.toks) w ow S.toks r u) → ∃ u, (Instr.loadAt t (.pointer (some ⟨β, o, none⟩))).run P w = .ok u w ∧ FRep (FX X ow S.toks) w ow S.toks r u := by
    intro β o h
    simpa [Instr.loadAt, Instr.sureAddr] using h
  rcases ha with ⟨d, off, β, rfl, ho, rfl⟩ | ha
  · refine go _ _ ?_
    simp only [ldA] at h
    split at h
    · rename_i cs hcs
      obtain ⟨γ, hγ, hr⟩ := hM.loc d cs hcs
      obtain rfl := hM.inj _ _ _ hγ ho
      exact ldRow_same hk hr h
    · cases h
  · unfold ldA at h
    split at h
    · rename_i cs
      cases ha with | p ha => cases ha with | ro cs β o u hc hu =>
      refine go _ _ ?_
      cases hp : ldPV n cs with
      | none => simp [hp] at h
      | some y =>
        simp [hp] at h
        subst h
        cases n with
        | none =>
          simp only [ldPV] at hp
          have hl := (List.getElem?_eq_some_iff.1 hp).1
          exact ⟨_, run_loadVar_at hk β o u (fun k hk => by simp at hk; subst hk; exact (hc 0 hl).1), .p (hu 0 _ hp)⟩
        | some m =>
          simp only [ldPV] at hp
          cases hsb : sub cs 0 m with
          | none => simp [hsb] at hp
          | some ys =>
            simp [hsb] at hp
            subst hp
            obtain ⟨e1, e2, e3⟩ := sub_spec hsb
            refine ⟨_, run_loadVar_at hk β o u (fun k hk => (hc k (by simp at hk; omega)).1), .p ?_⟩
            refine rep_range e1 (fun k x hx => ?_)
            have hk : k < m := by rw [← e1]; exact (List.getElem?_eq_some_iff.1 hx).1
            rw [e3 k hk, Nat.zero_add] at hx
            exact hu k x hx
    · rename_i b o
      cases ha with | ptr b o β ho =>
      refine go _ _ ?_
      split at h
      · rename_i cs hcs
        obtain ⟨γ, hγ, hr'⟩ := hM.cells hcs
        have hr := hr'.row
        obtain rfl := hM.inj _ _ _ hγ (hM.alive hcs ho)
        exact ldRow_same hk hr h
      · cases h
    · cases ha
    · cases h

theorem ok_ld (hM : MRel X ow S w) {t : TypeId} {n : Option Nat} (hk : ldKind P t = some n) {a : RV} {v : Value} {r : RV}
    (ha : RRep (FX X ow S.toks) w ow S.toks a v) (h : ldA n a S = some r) : OpOk X ow S w ((Instr.loadAt t v).run P w) r S none := by
  obtain ⟨u, h1, h2⟩ := ld_same (P := P) hM hk ha h
  exact OpOk.samef hM h1 h2

/-! ### Writes -/
def stA (n : Nat) (a x : RV) (S : Mem) : Option Mem :=
  if x.solid && x.cells.all RV.isCell && x.cells.length == n then
    match a with
    | .ptr b o => match S.mem[b]? with
      | some (.cells ty cs) => if o + n ≤ cs.length then some { S with mem := S.mem.set b (.cells ty (over cs o x.cells)) } else none
      | _ => none
    | .la d o => match locGet S.loc d with
      | some cs => if o + n ≤ cs.length then some { S with loc := locSet S.loc d (over cs o x.cells) } else none
      | none => none
    | _ => none
  else none

theorem run_storeVar_at {t : TypeId} {i : TypeInfo} (hi : P.info? t = some i) {β o : Nat} {vs : Array Value} {el fr} (hh : w.heap[β]? = some (.cells vs el fr))
    (hf : ∀ q, q < vs.size → ¬ (fr.1 ≤ q ∧ q < fr.2)) {v : Value} (hs : v.cells.size = i.size) (hb : o + i.size ≤ vs.size) (h1 : ∀ u ∈ v.cells.toList, u.oneCell' = true) :
    (storeVar t ⟨β, o, none⟩ v).run P w = .ok () (w.setCells β o v.cells.toList) := by
  have hc : ∀ j, j < v.cells.toList.length → (w.cell? ⟨β, o + 0 + j, none⟩).isSome = true := fun j hj => by
    simp at hj
    simp [World.cell?, hh, show o + j < vs.size by omega]
  have hz : ∀ j, j < v.cells.toList.length → w.frozen? ⟨β, o + 0 + j, none⟩ = false := fun j hj => by
    simp at hj
    have := hf (o + j) (by omega)
    obtain ⟨lo, hi'⟩ := fr
    simp only [World.frozen?, hh, Nat.add_zero, Bool.and_eq_false_iff, decide_eq_false_iff_not]
    simp only at this
    omega
  have := run_storeCells_cells (P := P) β o v.cells.toList 0 w hc hz h1
  simp only [storeVar, Sem.run_bind, run_sizeOf' hi, Result.andThen_ok, hs, ne_eq, not_true, if_false]
  simpa using this

theorem ok_st (hM : MRel X ow S w) {t : TypeId} {i : TypeInfo} (hi : P.info? t = some i) {a x : RV} {v u : Value} {S' : Mem}
    (ha : RRep (FX X ow S.toks) w ow S.toks a v) (hx : RRep (FX X ow S.toks) w ow S.toks x u) (h : stA i.size a x S = some S') :
    ∃ ow' w', (Instr.storeAt t v u).run P w = .ok () w' ∧ MRel X ow' S' w' ∧ Tr X ow S.toks w ow' S'.toks w' ∧ (∀ β d, ow β = some (.loc d) → ow' β = some (.loc d)) := by
  unfold stA at h
  split at h
  · rename_i hcond
    simp only [Bool.and_eq_true, beq_iff_eq, List.all_eq_true] at hcond
    obtain ⟨⟨hs, hall⟩, hlen⟩ := hcond
    have hfx : FRep (FX X ow S.toks) w ow S.toks x u := hx.f (by cases x <;> simp_all [RV.solid, RV.fc])
    obtain ⟨c1, c2⟩ := cells_rep hfx hs
    have hone : ∀ y ∈ u.cells.toList, y.oneCell' = true := by
      intro y hy
      obtain ⟨k, hk⟩ := List.getElem?_of_mem hy
      simp at hk
      have hk' : k < u.cells.size := (Array.getElem?_eq_some_iff.1 hk).1
      have hx' : x.cells[k]? = some (x.cells[k]'(by omega)) := List.getElem?_eq_getElem _
      exact cell_one (c2 k _ _ hx' hk) (hall _ (List.getElem_mem _))
    have hus : u.cells.size = i.size := by omega
    have hl' : u.cells.toList.length = x.cells.length := by simpa using c1
    rcases ha with ⟨d, off, β, rfl, ho, rfl⟩ | ha
    · simp only at h
      split at h
      · rename_i cs hcs
        split at h
        · rename_i hb
          cases h
          obtain ⟨γ, hγ, hr⟩ := hM.loc d cs hcs
          obtain rfl := hM.inj _ _ _ hγ ho
          obtain ⟨vs, el, fr, h1, h2, h3, h4⟩ := hr
          have hrun := run_storeVar_at (P := P) hi h1 h2 hus (o := off) (by omega) hone
          obtain ⟨m1, m2⟩ := hM.writeLoc (o := off) hcs ho hl' (by omega) (fun k y z a b => c2 k y z a (by simpa using b))
          exact ⟨ow, _, by simpa [Instr.storeAt, Instr.sureAddr] using hrun, m1, m2, fun _ _ h => h⟩
        · cases h
      · cases h
    · split at h
      · rename_i b off
        cases ha with | ptr b off β ho =>
        split at h
        · rename_i ty cs hcs
          split at h
          · rename_i hb
            cases h
            obtain ⟨γ, hγ, hr⟩ := hM.cells hcs
            have ho := hM.alive hcs ho
            obtain rfl := hM.inj _ _ _ hγ ho
            obtain ⟨vs, fr, h1, h2, ⟨h3, h3'⟩, h4⟩ := hr
            have hrun := run_storeVar_at (P := P) hi h1 h2 hus (o := off) (by omega) hone
            obtain ⟨m1, m2⟩ := hM.writeMem (o := off) hcs ho hl' (by omega) (fun k y z a b => c2 k y z a (by simpa using b))
            exact ⟨ow, _, by simpa [Instr.storeAt, Instr.sureAddr] using hrun, m1, m2, fun _ _ h => h⟩
          · cases h
        · cases h
      · cases ha
      · cases h
  · cases h

/-! ### Parts -/
def fldA (n : Option Nat) (off : Nat) (r : RV) : Option RV :=
  match r with
  | .p (.agg cs) => match n with
    | none => cs[off]?.map .p
    | some n => (sub cs off n).map fun x => .p (.agg x)
  | .agg cs => ldCells n cs off
  | _ => none

theorem run_part {t : TypeId} {n : Option Nat} (hk : ldKind P t = some n) {vs : Array Value} {off : Nat} (hb : off + n.getD 1 ≤ vs.size) :
    (part t vs off).run P w = .ok (match n with | none => vs.getD off undef | some m => .agg (vs.extract off (off + m))) w := by
  rcases ldKind_cases (w := w) hk with ⟨rfl, ha⟩ | ⟨i, rfl, hi, ha⟩
  · simp at hb
    have : vs[off]? = some (vs.getD off undef) := by simp [show off < vs.size by omega]
    simp only [part, Sem.run_bind, ha, Result.andThen_ok, Bool.false_eq_true, if_false, this, Sem.run_pure]
  · simp [part, ha, run_sizeOf' hi]

theorem ok_fld (hM : MRel X ow S w) {t : TypeId} {fs : Array Field} {f : Field} {i : Nat} (hu : P.underlying t = some (.struct fs)) (hf : fs[i]? = some f) {n : Option Nat} (hk : ldKind P f.type = some n)
    {x r : RV} {v : Value} (hx : RRep (FX X ow S.toks) w ow S.toks x v) (h : fldA n f.offset x = some r) : OpOk X ow S w ((Instr.field t v i).run P w) r S none := by
  have hfx : FRep (FX X ow S.toks) w ow S.toks x v := hx.f (by unfold fldA at h; cases x <;> simp_all [RV.fc])
  have aggc : ∀ vs, v = .agg vs → (Instr.field t v i).run P w = (part f.type vs f.offset).run P w := by
    rintro vs rfl
    simp [Instr.field, run_underlying hu, hf, asAgg]
  unfold fldA at h
  split at h
  · rename_i cs
    cases hfx with | p hfx => cases hfx with | agg cs vs hl hh =>
    rw [aggc vs rfl]
    cases n with
    | none =>
      simp only [Option.map_eq_some_iff] at h
      obtain ⟨y, hy, rfl⟩ := h
      have hl' := (List.getElem?_eq_some_iff.1 hy).1
      exact OpOk.samef hM (run_part hk (by simp; omega)) (.p (hh _ _ _ hy (by simp [show f.offset < vs.size by omega])))
    | some m =>
      simp only [Option.map_eq_some_iff] at h
      obtain ⟨y, hy, rfl⟩ := h
      obtain ⟨e1, e2, e3⟩ := sub_spec hy
      refine OpOk.samef hM (run_part hk (by simp; omega)) (.p (.agg y _ (by simp; omega) (fun k a b h1 h2 => ?_)))
      have hk' : k < m := by rw [← e1]; exact (List.getElem?_eq_some_iff.1 h1).1
      rw [e3 k hk'] at h1
      refine hh _ _ _ h1 ?_
      rw [Array.getElem?_extract] at h2
      split at h2
      · exact h2
      · cases h2
  · rename_i cs
    cases hfx with | agg cs vs hl hh =>
    rw [aggc vs rfl]
    cases n with
    | none =>
      simp only [ldCells] at h
      have hl' := (List.getElem?_eq_some_iff.1 h).1
      exact OpOk.samef hM (run_part hk (by simp; omega)) (hh _ _ _ h (by simp [show f.offset < vs.size by omega]))
    | some m =>
      simp only [ldCells, Option.map_eq_some_iff] at h
      obtain ⟨y, hy, rfl⟩ := h
      obtain ⟨e1, e2, e3⟩ := sub_spec hy
      refine OpOk.samef hM (run_part hk (by simp; omega)) (.agg y _ (by simp; omega) (fun k a b h1 h2 => ?_))
      have hk' : k < m := by rw [← e1]; exact (List.getElem?_eq_some_iff.1 h1).1
      rw [e3 k hk'] at h1
      refine hh _ _ _ h1 ?_
      rw [Array.getElem?_extract] at h2
      split at h2
      · exact h2
      · cases h2
  · cases h

/-- The address of a part, off cells on. -/
def faA (off : Nat) (r : RV) : Option RV :=
  match r with
  | .p (.ro cs) => some (.p (.ro (cs.drop off)))
  | .ptr b o => some (.ptr b (o + off))
  | .la d o => some (.la d (o + off))
  | _ => none
theorem rrep_fa {F ow T} {off : Nat} {r r' : RV} {v : Value} (h : RRep F w ow T r v) (hf : faA off r = some r') :
    ∃ β o, v = .pointer (some ⟨β, o, none⟩) ∧ RRep F w ow T r' (.pointer (some ⟨β, o + off, none⟩)) := by
  rcases h with ⟨d, o, β, rfl, ho, rfl⟩ | h
  · simp [faA] at hf
    subst hf
    exact ⟨β, o, rfl, .inl ⟨d, o + off, β, rfl, ho, rfl⟩⟩
  · unfold faA at hf
    split at hf
    · cases hf
      cases h with | p h => cases h with | ro cs β o u hc hu =>
      refine ⟨β, o, rfl, .inr (.p (.ro _ β (o + off) (fun k => u (off + k)) (fun k hk => ?_) (fun k x hx => ?_)))⟩
      · rw [Nat.add_assoc]
        exact hc _ (by simp at hk; omega)
      · exact hu _ _ (by simpa [List.getElem?_drop] using hx)
    · cases hf
      cases h with | ptr b o' β ho =>
      exact ⟨β, _, rfl, .inr (.ptr _ _ β ho)⟩
    · cases h
    · cases hf

theorem ok_fa (hM : MRel X ow S w) {t : TypeId} {fs : Array Field} {f : Field} {i : Nat} (hu : P.underlying t = some (.struct fs)) (hf : fs[i]? = some f) {ti : TypeInfo} (hi : P.info? f.type = some ti) (hz : ti.size ≠ 0)
    {x r : RV} {v : Value} (hx : RRep (FX X ow S.toks) w ow S.toks x v) (h : faA f.offset x = some r) : OpOk X ow S w ((Instr.fieldAt t v i).run P w) r S none := by
  obtain ⟨β, o, rfl, hr⟩ := rrep_fa hx h
  refine OpOk.same hM ?_ hr
  simp [Instr.fieldAt, run_underlying hu, hf, Instr.sureAddr, fieldPlace, run_sizeOf' hi, hz, addr_add]
end
end Go.Ag
/- An abstract machine for Go functions, seventh part: elements, new memory, aggregates. -/
namespace Go.Ag
open Go
set_option linter.unusedVariables false
set_option linter.unusedSimpArgs false
section
variable {P : Program} {X : Cells} {ow : Ow} {S : Mem} {w : World}

theorem flat_cons (x : PV) (l : List PV) : flat (x :: l) = x.cells ++ flat l := by simp [flat]
theorem flat_length {z : Nat} : ∀ {l : List PV}, (∀ x ∈ l, x.cells.length = z) → (flat l).length = l.length * z
  | [], _ => by simp [flat]
  | x :: l, h => by
    rw [flat_cons, List.length_append, flat_length (fun y hy => h y (by simp [hy])), h x (by simp), List.length_cons, Nat.succ_mul]
    omega
theorem flat_get {z : Nat} (hz : z ≠ 0) : ∀ {l : List PV}, (∀ x ∈ l, x.cells.length = z) → ∀ k, (flat l)[k]? = (l[k / z]?).bind fun x => x.cells[k % z]?
  | [], _, k => by simp [flat]
  | x :: l, h, k => by
    have hx := h x (by simp)
    rw [flat_cons]
    by_cases hk : k < z
    · rw [List.getElem?_append_left (by omega), Nat.div_eq_of_lt hk, Nat.mod_eq_of_lt hk]
      simp
    · have hd : k / z = (k - z) / z + 1 := by
        rw [← Nat.sub_add_cancel (show z ≤ k by omega), Nat.add_div_right _ (by omega)]
        simp
      have hm : k % z = (k - z) % z := Nat.mod_eq_sub_mod (by omega)
      rw [List.getElem?_append_right (by omega), hx, flat_get hz (fun y hy => h y (by simp [hy])), hd, hm]
      simp
theorem flat_at {z : Nat} (hz : z ≠ 0) {l : List PV} (h : ∀ x ∈ l, x.cells.length = z) {i : Nat} {x : PV} (hx : l[i]? = some x) {k : Nat} (hk : k < z) : (flat l)[i * z + k]? = x.cells[k]? := by
  rw [flat_get hz h]
  have e1 : (i * z + k) / z = i := by rw [Nat.mul_comm, Nat.mul_add_div (by omega), Nat.div_eq_of_lt hk]; omega
  have e2 : (i * z + k) % z = k := by rw [Nat.mul_comm, Nat.mul_add_mod, Nat.mod_eq_of_lt hk]
  rw [e1, e2, hx]
  rfl

/-! ### Elements -/
def iaA (z : Nat) (r : RV) (i : Int) : Option RV :=
  match r with
  | .p (.sl l) | .own l _ => if 0 ≤ i then match l[i.toNat]? with
    | some x => if x.cells.length = z then some (.p (.ro x.cells)) else none
    | none => none else none
  | .rs b off len _ => if 0 ≤ i ∧ i < len then some (.ptr b (off + i.toNat * z)) else none
  | _ => none

theorem rep_ro_of_sl {F} {l : List PV} {a : Option Addr} {cap z : Nat} {v : Value} (h : Rep F w (.sl l) v) {i : Nat} {x : PV} (hx : l[i]? = some x) (hz : x.cells.length = z) :
    ∃ β o cap, v = .slice (some ⟨β, o, none⟩) l.length cap ∧ Rep F w (.ro x.cells) (.pointer (some ⟨β, o + i * z, none⟩)) := by
  cases h with | sl l a cap esz u h1 h2 h3 h4 h5 =>
  have hxm : x ∈ l := List.mem_of_getElem? hx
  have hze : esz = z := by rw [← h3 x hxm, hz]
  subst hze
  rcases h4 with h4 | ⟨β, o, rfl, hc⟩
  · subst h4; simp at hx
  · refine ⟨β, o, cap, rfl, .ro _ β _ (fun k => u (i * esz + k)) (fun k hk => ?_) (fun k y hy => ?_)⟩
    · have hfl : i * esz + k < (flat l).length := by
        have := flat_at h1 h3 hx (k := k) (by omega)
        rw [List.getElem?_eq_getElem hk] at this
        exact (List.getElem?_eq_some_iff.1 this).1
      have := hc _ hfl
      rwa [← Nat.add_assoc] at this
    · have hk : k < esz := by rw [← hz]; exact (List.getElem?_eq_some_iff.1 hy).1
      exact h5 _ _ (by rw [flat_at h1 h3 hx hk]; exact hy)

theorem ok_ia (hM : MRel X ow S w) {t e : TypeId} (hu : P.underlying t = some (.slice e)) {ti : TypeInfo} (hi : P.info? e = some ti)
    {x r : RV} {v : Value} {k : IntKind} {i : Int} (hx : RRep (FX X ow S.toks) w ow S.toks x v) (h : iaA ti.size x i = some r) : OpOk X ow S w ((Instr.indexAt t v (.int k i)).run P w) r S none := by
  have hfx : FRep (FX X ow S.toks) w ow S.toks x v := hx.f (by unfold iaA at h; cases x <;> simp_all [RV.fc])
  have hel : P.elem t = e := by simp [Program.elem, hu]
  have slc : ∀ l : List PV, Rep (FX X ow S.toks) w (.sl l) v → (if 0 ≤ i then match l[i.toNat]? with
      | some x => if x.cells.length = ti.size then some (RV.p (.ro x.cells)) else none
      | none => none else none) = some r → OpOk X ow S w ((Instr.indexAt t v (.int k i)).run P w) r S none := by
    intro l hl h
    split at h
    · rename_i h0
      split at h
      · rename_i y hy
        split at h
        · rename_i hz
          cases h
          obtain ⟨β, o, cap, rfl, hr⟩ := rep_ro_of_sl (a := none) (cap := 0) hl hy hz
          have hlt := (List.getElem?_eq_some_iff.1 hy).1
          refine OpOk.samef hM ?_ (.p hr)
          rw [run_indexAt_slice w t _ _ _ k i (by rw [hel]; exact hu), if_pos ⟨h0, by omega⟩, hel]
          simp [run_sizeOf' hi, addr_add]
        · cases h
      · cases h
    · cases h
  unfold iaA at h
  split at h
  · cases hfx with | p hfx => exact slc _ hfx h
  · cases hfx with | own l t' v ht hr h' => exact slc _ hr h
  · rename_i b off len z'
    cases hfx with | rs _ _ _ _ β cap ho hc =>
    split at h
    · rename_i hr
      cases h
      refine OpOk.samef hM ?_ (.ptr b _ β (ho.imp_right (·.1)))
      rw [run_indexAt_slice w t _ _ _ k i (by rw [hel]; exact hu), if_pos hr, hel]
      simp [run_sizeOf' hi, addr_add]
    · cases h
  · cases h

/-- An element of an array behind an address. -/
def iaArrA (len z : Nat) (r : RV) (i : Int) : Option RV := if 0 ≤ i ∧ i < len then faA (i.toNat * z) r else none
theorem ok_iaArr (hM : MRel X ow S w) {t e : TypeId} {len : Nat} (hu : P.underlying t = some (.array len e)) {ti : TypeInfo} (hi : P.info? e = some ti)
    {x r : RV} {v : Value} {k : IntKind} {i : Int} (hx : RRep (FX X ow S.toks) w ow S.toks x v) (h : iaArrA len ti.size x i = some r) : OpOk X ow S w ((Instr.indexAt t v (.int k i)).run P w) r S none := by
  unfold iaArrA at h
  split at h
  · rename_i hr
    obtain ⟨β, o, rfl, hrr⟩ := rrep_fa hx h
    have hel : P.elem t = e := by simp [Program.elem, hu]
    have hal : P.arrayLen t = len := by simp [Program.arrayLen, hu]
    refine OpOk.same hM ?_ hrr
    rw [run_indexAt_array w t _ k i (by rw [hel, hal]; exact hu), hal, if_pos hr, hel]
    simp [run_sizeOf' hi, addr_add]
  · cases h

def ixsA (s : List UInt8) (i : Int) : Option RV := if 0 ≤ i then s[i.toNat]?.map fun b => .p (.int .u8 b.toNat) else none
theorem ok_ixs (hM : MRel X ow S w) {t : TypeId} (hu : P.underlying t = some .string) {s : List UInt8} {k : IntKind} {i : Int} {r : RV} (h : ixsA s i = some r) :
    OpOk X ow S w ((Instr.index t (.string ⟨⟨s⟩⟩) (.int k i)).run P w) r S none := by
  unfold ixsA at h
  split at h
  · rename_i h0
    simp only [Option.map_eq_some_iff] at h
    obtain ⟨b, hb, rfl⟩ := h
    refine OpOk.samef hM ?_ (.p (.int .u8 b.toNat))
    have hlt := (List.getElem?_eq_some_iff.1 hb).1
    have hg : (ByteArray.mk ⟨s⟩)[i.toNat]? = some b := by
      have hsz : i.toNat < (ByteArray.mk ⟨s⟩).size := hlt
      rw [getElem?_pos (ByteArray.mk ⟨s⟩) i.toNat hsz]
      congr 1
      rw [List.getElem?_eq_getElem hlt] at hb
      exact Option.some.inj hb
    simp [Instr.index, asIntOf, run_underlying hu, h0, hg]
  · cases h

/-- An element of an array that is a value. -/
def ixA (len z : Nat) (n : Option Nat) (r : RV) (i : Int) : Option RV := if 0 ≤ i ∧ i < len then fldA n (i.toNat * z) r else none
theorem ok_ixA (hM : MRel X ow S w) {t e : TypeId} {len : Nat} (hu : P.underlying t = some (.array len e)) {ti : TypeInfo} (hi : P.info? e = some ti) {n : Option Nat} (hk : ldKind P e = some n)
    {x r : RV} {v : Value} {k : IntKind} {i : Int} (hx : RRep (FX X ow S.toks) w ow S.toks x v) (h : ixA len ti.size n x i = some r) : OpOk X ow S w ((Instr.index t v (.int k i)).run P w) r S none := by
  unfold ixA at h
  split at h
  · rename_i hr
    have hfx : FRep (FX X ow S.toks) w ow S.toks x v := hx.f (by unfold fldA at h; cases x <;> simp_all [RV.fc])
    have hv : ∃ vs, v = .agg vs := by
      unfold fldA at h
      split at h
      · cases hfx with | p hfx => cases hfx with | agg cs vs hl hh => exact ⟨vs, rfl⟩
      · cases hfx with | agg cs vs hl hh => exact ⟨vs, rfl⟩
      · cases h
    obtain ⟨vs, rfl⟩ := hv
    have e1 : (Instr.index t (.agg vs) (.int k i)).run P w = (part e vs (i.toNat * ti.size)).run P w := by
      simp [Instr.index, asIntOf, run_underlying hu, hr, run_sizeOf' hi]
    rw [e1]
    unfold fldA at h
    split at h
    · cases hfx with | p hfx => cases hfx with | agg cs vs hl hh =>
      cases n with
      | none =>
        simp only [Option.map_eq_some_iff] at h
        obtain ⟨y, hy, rfl⟩ := h
        have hl' := (List.getElem?_eq_some_iff.1 hy).1
        exact OpOk.samef hM (run_part hk (by simp; omega)) (.p (hh _ _ _ hy (by simp [show i.toNat * ti.size < vs.size by omega])))
      | some m =>
        simp only [Option.map_eq_some_iff] at h
        obtain ⟨y, hy, rfl⟩ := h
        obtain ⟨e1, e2, e3⟩ := sub_spec hy
        refine OpOk.samef hM (run_part hk (by simp; omega)) (.p (.agg y _ (by simp; omega) (fun k a b h1 h2 => ?_)))
        have hk' : k < m := by rw [← e1]; exact (List.getElem?_eq_some_iff.1 h1).1
        rw [e3 k hk'] at h1
        refine hh _ _ _ h1 ?_
        rw [Array.getElem?_extract] at h2
        split at h2
        · exact h2
        · cases h2
    · cases hfx with | agg cs vs hl hh =>
      cases n with
      | none =>
        simp only [ldCells] at h
        have hl' := (List.getElem?_eq_some_iff.1 h).1
        exact OpOk.samef hM (run_part hk (by simp; omega)) (hh _ _ _ h (by simp [show i.toNat * ti.size < vs.size by omega]))
      | some m =>
        simp only [ldCells, Option.map_eq_some_iff] at h
        obtain ⟨y, hy, rfl⟩ := h
        obtain ⟨e1, e2, e3⟩ := sub_spec hy
        refine OpOk.samef hM (run_part hk (by simp; omega)) (.agg y _ (by simp; omega) (fun k a b h1 h2 => ?_))
        have hk' : k < m := by rw [← e1]; exact (List.getElem?_eq_some_iff.1 h1).1
        rw [e3 k hk'] at h1
        refine hh _ _ _ h1 ?_
        rw [Array.getElem?_extract] at h2
        split at h2
        · exact h2
        · cases h2
    · cases h
  · cases h

def extA (i : Nat) (r : RV) : Option RV :=
  match r with
  | .tup vs => vs[i]?
  | .p (.tup vs) => vs[i]?.map .p
  | _ => none
theorem ok_ext (hM : MRel X ow S w) {x r : RV} {v : Value} {i : Nat} (hx : RRep (FX X ow S.toks) w ow S.toks x v) (h : extA i x = some r) : OpOk X ow S w ((Instr.extract v i).run P w) r S none := by
  have hfx : FRep (FX X ow S.toks) w ow S.toks x v := hx.f (by unfold extA at h; cases x <;> simp_all [RV.fc])
  unfold extA at h
  split at h
  · cases hfx with | tup cs vs hl hh =>
    have hlt := (List.getElem?_eq_some_iff.1 h).1
    have e : vs[i]? = some (vs[i]'(by omega)) := Array.getElem?_eq_getElem (by omega)
    exact OpOk.samef hM (by simp [Instr.extract, e]) (hh _ _ _ h e)
  · cases hfx with | p hfx => cases hfx with | tup cs vs hl hh =>
    simp only [Option.map_eq_some_iff] at h
    obtain ⟨y, hy, rfl⟩ := h
    have hlt := (List.getElem?_eq_some_iff.1 hy).1
    have e : vs[i]? = some (vs[i]'(by omega)) := Array.getElem?_eq_getElem (by omega)
    exact OpOk.samef hM (by simp [Instr.extract, e]) (.p (hh _ _ _ hy e))
  · cases h

def lenA (r : RV) : Option Nat :=
  match r with
  | .p (.sl l) | .own l _ => some l.length
  | .nsl _ => some 0
  | .rs _ _ n _ => some n
  | _ => none
theorem slice_of_lenA {F ow T} {r : RV} {v : Value} {n : Nat} (h : FRep F w ow T r v) (hl : lenA r = some n) : ∃ a cap, v = .slice a n cap := by
  unfold lenA at hl
  split at hl
  · cases hl; cases h with | p h => cases h; exact ⟨_, _, rfl⟩
  · cases hl; cases h with | own l t v ht hr h' => cases hr; exact ⟨_, _, rfl⟩
  · cases hl; cases h; exact ⟨_, _, rfl⟩
  · cases hl; cases h; exact ⟨_, _, rfl⟩
  · cases hl
theorem ok_lenl (hM : MRel X ow S w) {t e ty : TypeId} (hu : P.underlying t = some (.slice e)) {x : RV} {v : Value} {n : Nat} (hx : RRep (FX X ow S.toks) w ow S.toks x v) (h : lenA x = some n) :
    OpOk X ow S w ((Builtin.len_ #[t] ty #[v]).run P w) (.p (.int .i64 n)) S none := by
  have hfx : FRep (FX X ow S.toks) w ow S.toks x v := hx.f (by unfold lenA at h; cases x <;> simp_all [RV.fc])
  obtain ⟨a, cap, rfl⟩ := slice_of_lenA hfx h
  exact OpOk.samef hM (by simp [Builtin.len_, run_underlying hu]; rfl) (.p (.int _ _))
theorem ok_lens (hM : MRel X ow S w) {t ty : TypeId} (hu : P.underlying t = some .string) {s : List UInt8} :
    OpOk X ow S w ((Builtin.len_ #[t] ty #[.string ⟨⟨s⟩⟩]).run P w) (.p (.int .i64 s.length)) S none :=
  OpOk.samef hM (by simp [Builtin.len_, run_underlying hu]; rfl) (.p (.int _ _))

/-! ### New memory -/
theorem ofValue_flat {F ow T} (n : Nat) (v : Value) (hv : ∀ cs, v ≠ .agg cs) : FRep F w ow T (ofValue n v) v := by
  cases v with
  | agg cs => exact absurd rfl (hv cs)
  | bool b => cases n <;> exact .p (.bool b)
  | int k m => cases n <;> exact .p (.int k m)
  | string s => cases s with | mk d => cases d with | mk l => cases n <;> exact .p (.str l)
  | slice a l c =>
    cases l with
    | zero => cases c with
      | zero => cases n <;> exact .nsl _ a (by cases a <;> simp)
      | succ c => cases n <;> exact .top _
    | succ l => cases n <;> exact .top _
  | pointer a => cases a with
    | none => cases n <;> exact .p .nilp
    | some a => cases n <;> exact .top _
  | map r => cases r with
    | none => cases n <;> exact .p .nilm
    | some a => cases n <;> exact .top _
  | nilFunc => cases n <;> exact .p .nilf
  | nilIface => cases n <;> exact .p .nili
  | float k b => cases n <;> exact .top _
  | complex k a b => cases n <;> exact .top _
  | chan r => cases n <;> exact .top _
  | func f a b => cases n <;> exact .top _
  | iface t u => cases n <;> exact .top _
  | tuple vs => cases n <;> exact .top _
theorem ofValue_rep {F ow T} : ∀ (n : Nat) (v : Value), FRep F w ow T (ofValue n v) v := by
  intro n
  induction n with
  | zero =>
    intro v
    by_cases h : ∃ cs, v = .agg cs
    · obtain ⟨cs, rfl⟩ := h
      exact .top _
    · exact ofValue_flat 0 v (fun cs e => h ⟨cs, e⟩)
  | succ n ih =>
    intro v
    by_cases h : ∃ cs, v = .agg cs
    · obtain ⟨cs, rfl⟩ := h
      show FRep F w ow T (.agg (cs.toList.map (ofValue n))) (.agg cs)
      refine .agg _ cs (by simp) (fun k x u a b => ?_)
      rw [List.getElem?_map, Array.getElem?_toList, b] at a
      cases a
      exact ih _
    · exact ofValue_flat _ v (fun cs e => h ⟨cs, e⟩)

def zeroCells (v : Value) : List RV := v.cells.toList.map (ofValue 3)
theorem zeroCells_rep {F ow T} (v : Value) : v.cells.size = (zeroCells v).length ∧ ∀ (k : Nat) x u, (zeroCells v)[k]? = some x → v.cells[k]? = some u → FRep F w ow T x u := by
  refine ⟨by simp [zeroCells], fun k x u a b => ?_⟩
  simp only [zeroCells, List.getElem?_map, Array.getElem?_toList, Option.map_eq_some_iff] at a
  obtain ⟨y, hy, rfl⟩ := a
  rw [b] at hy
  cases hy
  exact ofValue_rep _ _

theorem run_newVar (t : TypeId) (v : Value) : (newVar t v).run P w = .ok ⟨w.heap.size, 0, none⟩ (w.alloc (.cells v.cells t)) := by
  simp [newVar, newRow]

theorem ok_newLoc (hM : MRel X ow S w) (d : Nat) {t : TypeId} {v : Value} {cs : List RV} (hs : v.cells.size = cs.length)
    (hc : ∀ (k : Nat) x u, cs[k]? = some x → v.cells[k]? = some u → FRep (FX X ow S.toks) w ow S.toks x u) :
    OpOk X ow S w ((do pure (Value.pointer (some (← newVar t v))) : Sem Value).run P w) (.la d 0) { S with loc := locSet S.loc d cs } (some d) := by
  obtain ⟨m1, m2⟩ := hM.pushLoc d v.cells t cs (by omega) hc
  refine ⟨_, _, _, by simp [run_newVar], m1, m2, fun β d' h hd => ?_, .inl ⟨d, 0, w.heap.size, rfl, by unfold owLoc; rw [if_pos rfl], rfl⟩⟩
  rw [owLoc_old (hM.bnd _ _ h) (by rw [h]; intro e; cases e; exact hd rfl), h]

theorem ok_newMem (hM : MRel X ow S w) {t : TypeId} {v : Value} {cs : List RV} (hs : v.cells.size = cs.length)
    (hc : ∀ (k : Nat) x u, cs[k]? = some x → v.cells[k]? = some u → FRep (FX X ow S.toks) w ow S.toks x u) :
    OpOk X ow S w ((do pure (Value.pointer (some (← newVar t v))) : Sem Value).run P w) (.ptr S.mem.length 0) { S with mem := S.mem ++ [.cells (2 * t) cs] } none := by
  obtain ⟨m1, m2⟩ := hM.pushMem v.cells t cs (by omega) hc
  refine ⟨_, _, _, by simp [run_newVar], m1, m2, fun β d' h hd => ?_, .inr (.ptr _ _ w.heap.size (.inr owNew_new))⟩
  rw [owNew_old (hM.bnd _ _ h), h]

/-! ### Aggregates -/
def fillA (pl : List (Nat × Nat)) (cs : List RV) : List (Nat × RV) → Option (List RV)
  | [] => some cs
  | (i, r) :: rest => match pl[i]? with
    | none => none
    | some (off, size) => if r.solid && r.cells.length == size && decide (off + size ≤ cs.length) then fillA pl (over cs off r.cells) rest else none

theorem fill_rep {F ow T} (pl : List (Nat × Nat)) : ∀ (rs : List (Nat × RV)) (cs : List RV) (parts : List (Nat × Value)) (vs : Array Value) (out : List RV),
    parts.length = rs.length → (∀ (k : Nat) x y, rs[k]? = some x → parts[k]? = some y → x.1 = y.1 ∧ FRep F w ow T x.2 y.2) →
    vs.size = cs.length → (∀ (k : Nat) x u, cs[k]? = some x → vs[k]? = some u → FRep F w ow T x u) → fillA pl cs rs = some out →
    ∃ res, Instr.fill (pl[·]?) vs parts = some res ∧ res.size = out.length ∧ ∀ (k : Nat) x u, out[k]? = some x → res[k]? = some u → FRep F w ow T x u
  | [], cs, parts, vs, out, hl, hp, hs, hc, h => by
    simp only [fillA, Option.some.injEq] at h
    subst h
    cases parts with
    | nil => exact ⟨vs, rfl, hs, hc⟩
    | cons a b => simp at hl
  | (i, r) :: rs, cs, parts, vs, out, hl, hp, hs, hc, h => by
    cases parts with
    | nil => simp at hl
    | cons p parts =>
      obtain ⟨i', v⟩ := p
      obtain ⟨hi', hr⟩ := hp 0 _ _ rfl rfl
      simp only at hi' hr
      subst hi'
      simp only [fillA] at h
      split at h
      · cases h
      · rename_i off size hpl
        split at h
        · rename_i hcond
          simp only [Bool.and_eq_true, beq_iff_eq, decide_eq_true_eq] at hcond
          obtain ⟨⟨hsol, hlen⟩, hoff⟩ := hcond
          obtain ⟨c1, c2⟩ := cells_rep hr hsol
          obtain ⟨g1, g2⟩ := Great.foldl_set off v.cells.toList 0 vs
          have := fill_rep pl rs (over cs off r.cells) parts ((v.cells.toList.zipIdx 0).foldl (fun cs (x : Value × Nat) => cs.setIfInBounds (off + x.2) x.1) vs) out (by simpa using hl)
            (fun k x y a b => hp (k + 1) x y (by simpa using a) (by simpa using b)) (by rw [g1, over_length _ _ _ (by omega)]; exact hs)
            (fun k x u a b => by
              rw [over_get _ _ _ (by omega)] at a
              rw [g2] at b
              simp only [Nat.add_zero, Array.length_toList] at b
              split at a
              · rename_i hc'
                rw [if_pos ⟨hc'.1, by omega, by omega⟩] at b
                exact c2 _ _ _ a (by simpa using b)
              · rename_i hc'
                rw [if_neg (by omega)] at b
                exact hc _ _ _ a b) h
          obtain ⟨res, q1, q2, q3⟩ := this
          refine ⟨res, ?_, q2, q3⟩
          unfold Instr.fill
          simp only [hpl]
          rw [if_neg (by simp; omega)]
          rw [← q1]
          congr 1
          rw [← Array.foldl_toList, Array.toList_zipIdx]
        · cases h

/-- How a struct is put together: the zero value's cells, each field's place. -/
def buildKind (P : Program) (t : TypeId) : Option (Value × List (Nat × Nat)) :=
  match P.info? t, P.underlying t with
  | some i, some (.struct fs) => match i.zero, fs.toList.mapM fun f => (P.info? f.type).map fun i => (f.offset, i.size) with
    | some z, some pl => some (z, pl)
    | _, _ => none
  | _, _ => none

theorem ok_build (hM : MRel X ow S w) {t : TypeId} {z : Value} {pl : List (Nat × Nat)} (hk : buildKind P t = some (z, pl)) {rs : List (Nat × RV)} {parts : Array (Nat × Value)} {out : List RV}
    (hl : parts.toList.length = rs.length) (hp : ∀ (k : Nat) x y, rs[k]? = some x → parts.toList[k]? = some y → x.1 = y.1 ∧ FRep (FX X ow S.toks) w ow S.toks x.2 y.2)
    (h : fillA pl (zeroCells z) rs = some out) : OpOk X ow S w ((Instr.build t parts).run P w) (.agg out) S none := by
  unfold buildKind at hk
  split at hk
  · rename_i it fs hit hu
    split at hk
    · rename_i z' pl' hz hpl
      cases hk
      obtain ⟨c1, c2⟩ := zeroCells_rep (w := w) (F := FX X ow S.toks) (ow := ow) (T := S.toks) z
      obtain ⟨res, q1, q2, q3⟩ := fill_rep pl rs (zeroCells z) parts.toList z.cells out hl hp c1 c2 h
      refine OpOk.samef hM (v := .agg res) ?_ (.agg out res q2 q3)
      refine run_build w t parts res ?_
      have e2 : (fun i : Nat => pl.toArray[i]?) = fun i => pl[i]? := by funext i; simp
      simp only [Program.built, hit, hu, hz, hpl]
      rw [e2]
      exact q1
    · cases hk
  · cases hk
end
end Go.Ag
/- An abstract machine for Go functions, eighth part: slices. -/
namespace Go.Ag
open Go
set_option linter.unusedVariables false
set_option linter.unusedSimpArgs false
section
variable {P : Program} {X : Cells} {ow : Ow} {S : Mem} {w : World}

/-! ### Cutting -/
def cutL {α : Type} (xs : List α) (l h : Nat) : List α := (xs.drop l).take (h - l)
theorem extract_bytes (s : List UInt8) (l h : Nat) : (ByteArray.mk ⟨s⟩).extract l h = ByteArray.mk ⟨cutL s l h⟩ := by
  apply ByteArray.ext
  rw [ByteArray.data_extract]
  apply Array.ext'
  simp [cutL, List.extract]

/-- The bounds of a cut: what is not given is 0 or the length. -/
def cutB (lo hi : Option Int) (n : Nat) : Option (Nat × Nat) :=
  let l := lo.getD 0
  let h := hi.getD n
  if 0 ≤ l ∧ l ≤ h ∧ h ≤ n then some (l.toNat, h.toNat) else none
def asInts : List RV → Option (List Int)
  | [] => some []
  | .p (.int _ n) :: rs => (asInts rs).map (n :: ·)
  | _ :: _ => none

theorem run_bounds (isSlice : Bool) (n cap : Nat) (hc : n ≤ cap) (lo hi : Option (IntKind × Int)) {l h : Nat} (hb : cutB (lo.map (·.2)) (hi.map (·.2)) n = some (l, h)) :
    (Instr.sliceBounds isSlice n cap (lo.map fun x => .int x.1 x.2) (hi.map fun x => .int x.1 x.2) none).run P w = .ok (l, h, cap) w ∧ l ≤ h ∧ h ≤ n := by
  unfold cutB at hb
  simp only at hb
  split at hb
  · rename_i hr
    cases hb
    cases lo with
    | none =>
      cases hi with
      | none => simp [Instr.sliceBounds]
      | some y =>
        obtain ⟨ky, y⟩ := y
        simp at hr
        simp [Instr.sliceBounds, run_sliceBound, show 0 ≤ y by omega, show y ≤ (cap : Int) by omega]
        try omega
    | some x =>
      obtain ⟨kx, x⟩ := x
      cases hi with
      | none =>
        simp at hr
        simp [Instr.sliceBounds, run_sliceBound, show 0 ≤ x by omega, show x ≤ (n : Int) by omega]
        try omega
      | some y =>
        obtain ⟨ky, y⟩ := y
        simp at hr
        have e : ((y.toNat : Nat) : Int) = y := Int.toNat_of_nonneg (by omega)
        simp [Instr.sliceBounds, run_sliceBound, show 0 ≤ x by omega, show 0 ≤ y by omega, show y ≤ (cap : Int) by omega, show x ≤ y by omega, e]
        try omega
  · cases hb

theorem ok_sls (hM : MRel X ow S w) {t : TypeId} (hu : P.underlying t = some .string) {s : List UInt8} (lo hi : Option (IntKind × Int)) {l h : Nat} (hb : cutB (lo.map (·.2)) (hi.map (·.2)) s.length = some (l, h)) :
    OpOk X ow S w ((Instr.sliceAt t (.string ⟨⟨s⟩⟩) (lo.map fun x => .int x.1 x.2) (hi.map fun x => .int x.1 x.2) none).run P w) (.p (.str (cutL s l h))) S none := by
  obtain ⟨h1, h2, h3⟩ := run_bounds (P := P) (w := w) false s.length s.length (Nat.le_refl _) lo hi hb
  refine OpOk.samef hM ?_ (.p (.str _))
  have hsz : (ByteArray.mk ⟨s⟩).size = s.length := rfl
  simp only [Instr.sliceAt, Instr.slice, Sem.run_bind, run_underlying hu, Result.andThen_ok, hsz, h1, extract_bytes, Option.isSome_none, Bool.false_eq_true, if_false, Sem.run_pure]

theorem cutL_length {α : Type} {xs : List α} {l h : Nat} (h1 : l ≤ h) (h2 : h ≤ xs.length) : (cutL xs l h).length = h - l := by
  simp [cutL]; omega
theorem cutL_get {α : Type} {xs : List α} {l h k : Nat} (hk : k < h - l) : (cutL xs l h)[k]? = xs[l + k]? := by
  unfold cutL
  rw [List.getElem?_take, if_pos hk, List.getElem?_drop]
theorem cutL_mem {α : Type} {xs : List α} {l h : Nat} {x : α} (hx : x ∈ cutL xs l h) : x ∈ xs := List.mem_of_mem_drop (List.mem_of_mem_take hx)

theorem rep_cut {F} {xs : List PV} {a : Option Addr} {cap z : Nat} (h : Rep F w (.sl xs) (.slice a xs.length cap)) (hz : ∀ x ∈ xs, x.cells.length = z) {l r m : Nat} (h1 : l ≤ r) (h2 : r ≤ xs.length) (hm : r ≤ m) (hmc : m ≤ cap) :
    Rep F w (.sl (cutL xs l r)) (.slice (if m = l then a else a.map (·.add (l * z))) (r - l) (m - l)) := by
  rw [← cutL_length h1 h2]
  generalize hv : Value.slice a xs.length cap = v at h
  cases h with | sl _ a' cap' esz u hz0 hcap he ha hu =>
  cases hv
  by_cases he0 : cutL xs l r = []
  · rw [he0]
    exact .sl [] _ _ 1 (fun _ => undef) (by simp) (by simp) (by simp) (.inl rfl) (by simp [flat])
  · have hlr : l < r := by
      have := cutL_length (xs := xs) h1 h2
      rcases Nat.lt_or_ge l r with h | h
      · exact h
      · exact absurd (List.length_eq_zero_iff.1 (by omega)) he0
    rcases ha with rfl | ⟨β, o, rfl, hc⟩
    · simp at h2; omega
    · have hxl : l < xs.length := by omega
      have hez : esz = z := by rw [← he _ (List.getElem_mem hxl), hz _ (List.getElem_mem hxl)]
      subst hez
      rw [if_neg (by omega)]
      have key : ∀ k, k < (flat (cutL xs l r)).length → (flat (cutL xs l r))[k]? = (flat xs)[l * esz + k]? := by
        intro k hk
        rw [flat_length (fun x hx => hz x (cutL_mem hx)), cutL_length h1 h2] at hk
        have hkd : k / esz < r - l := Nat.div_lt_of_lt_mul (by rw [Nat.mul_comm]; exact hk)
        rw [flat_get hz0 (fun x hx => hz x (cutL_mem hx)), flat_get hz0 hz, cutL_get hkd]
        rw [Nat.mul_comm, Nat.mul_add_div (by omega), Nat.mul_add_mod]
      refine .sl _ _ _ esz (fun k => u (l * esz + k)) hz0 ?_ (fun x hx => hz x (cutL_mem hx)) (.inr ⟨β, o + l * esz, ?_, fun k hk => ?_⟩) (fun k x hx => ?_)
      · rw [cutL_length h1 h2]; omega
      · simp [addr_add]
      · have := key k hk
        rw [List.getElem?_eq_getElem hk] at this
        have := hc _ (List.getElem?_eq_some_iff.1 this.symm).1
        rwa [← Nat.add_assoc] at this
      · have hk := (List.getElem?_eq_some_iff.1 hx).1
        rw [key k hk] at hx
        exact hu _ _ hx

/-- All elements of one size. -/
def uni (z : Nat) (l : List PV) : Bool := l.all fun x => x.cells.length == z && x.cells.all PV.isCell
theorem uni_spec {z : Nat} {l : List PV} (h : uni z l = true) : ∀ x ∈ l, x.cells.length = z := by
  intro x hx
  simp only [uni, List.all_eq_true, Bool.and_eq_true, beq_iff_eq] at h
  exact (h x hx).1
theorem uni_cell {z : Nat} {l : List PV} (h : uni z l = true) : ∀ x ∈ flat l, x.isCell = true := by
  intro x hx
  obtain ⟨y, hy, hxy⟩ := List.mem_flatMap.1 hx
  simp only [uni, List.all_eq_true, Bool.and_eq_true, beq_iff_eq] at h
  exact (h y hy).2 x hxy
theorem uni_top {z : Nat} {l : List PV} (h : uni z l = true) : ∀ x ∈ l, x ≠ .top := by
  rintro x hx rfl
  simp only [uni, List.all_eq_true, Bool.and_eq_true, beq_iff_eq] at h
  have := (h _ hx).2 .top (by simp [PV.cells])
  simp [PV.isCell] at this
theorem pcell_one {F : Cells} {x : PV} {v : Value} (h : Rep F w x v) (hc : x.isCell = true) : v.oneCell' = true := by
  cases h <;> first | rfl | simp [PV.isCell] at hc

def sllA (z : Nat) (r : RV) (lo hi : Option Int) : Option RV :=
  match r with
  | .p (.sl xs) => match cutB lo hi xs.length with
    | some (l, h) => if uni z xs then some (.p (.sl (cutL xs l h))) else none
    | none => none
  | .own xs t => match cutB lo hi xs.length with
    | some (l, h) => if uni z xs then (if l = 0 then some (.own (cutL xs 0 h) t) else some (.p (.sl (cutL xs l h)))) else none
    | none => none
  | .nsl b => match cutB lo hi 0 with
    | some _ => some (.nsl b)
    | none => none
  | .rs b off len z' => match cutB lo hi len with
    | some (l, h) => if l = 0 then some (.rs b off h z') else if l = h then some (.p (.sl [])) else if z' = z then some (.rs b (off + l * z) (h - l) z') else none
    | none => none
  | _ => none

theorem run_sll {t e : TypeId} (hu : P.underlying t = some (.slice e)) {ti : TypeInfo} (hi : P.info? e = some ti) (a : Option Addr) (n cap : Nat) (hc : n ≤ cap) (lo hi' : Option (IntKind × Int)) {l h : Nat}
    (hb : cutB (lo.map (·.2)) (hi'.map (·.2)) n = some (l, h)) :
    (Instr.sliceAt t (.slice a n cap) (lo.map fun x => .int x.1 x.2) (hi'.map fun x => .int x.1 x.2) none).run P w = .ok (.slice (if cap = l then a else a.map (·.add (l * ti.size))) (h - l) (cap - l)) w ∧ l ≤ h ∧ h ≤ n := by
  obtain ⟨h1, h2, h3⟩ := run_bounds (P := P) (w := w) true n cap hc lo hi' hb
  refine ⟨?_, h2, h3⟩
  simp only [Instr.sliceAt, Instr.slice, Sem.run_bind, run_underlying hu, Result.andThen_ok, h1, run_sizeOf' hi, Sem.run_pure]

theorem ok_sll (hM : MRel X ow S w) {t e : TypeId} (hu : P.underlying t = some (.slice e)) {ti : TypeInfo} (hi : P.info? e = some ti) {x r : RV} {v : Value} (lo hi' : Option (IntKind × Int))
    (hx : RRep (FX X ow S.toks) w ow S.toks x v) (h : sllA ti.size x (lo.map (·.2)) (hi'.map (·.2)) = some r) :
    OpOk X ow S w ((Instr.sliceAt t v (lo.map fun x => .int x.1 x.2) (hi'.map fun x => .int x.1 x.2) none).run P w) r S none := by
  have hfx : FRep (FX X ow S.toks) w ow S.toks x v := hx.f (by unfold sllA at h; cases x <;> simp_all [RV.fc])
  unfold sllA at h
  split at h
  · rename_i xs
    split at h
    · rename_i l r' hb
      split at h
      · rename_i hz
        cases h
        cases hfx with | p hr =>
        have hr' := hr
        cases hr with | sl _ a cap esz u hz0 hcap he ha hu' =>
        obtain ⟨e1, e2, e3⟩ := run_sll (P := P) (w := w) hu hi a xs.length cap hcap lo hi' hb
        exact OpOk.samef hM e1 (.p (rep_cut hr' (uni_spec hz) e2 e3 (Nat.le_trans e3 hcap) (Nat.le_refl _)))
      · cases h
    · cases h
  · rename_i xs t'
    split at h
    · rename_i l r' hb
      split at h
      · rename_i hz
        cases hfx with | own _ _ v ht hr h' =>
        have hr' := hr
        cases hr with | sl _ a cap esz u hz0 hcap he ha hu' =>
        obtain ⟨e1, e2, e3⟩ := run_sll (P := P) (w := w) hu hi a xs.length cap hcap lo hi' hb
        have hcut := rep_cut hr' (uni_spec hz) e2 e3 (Nat.le_trans e3 hcap) (Nat.le_refl _)
        split at h
        · rename_i hl
          subst hl
          cases h
          refine OpOk.samef hM e1 (.own _ _ _ ht hcut (fun e' z' hez => ?_))
          obtain ⟨q1, q2, q3⟩ := h' e' z' hez
          refine ⟨by rw [cutL_length e2 e3]; omega, fun y hy => q2 y (cutL_mem hy), fun heq => ?_⟩
          rw [cutL_length e2 e3] at heq
          have hfull : xs.length = e' := by omega
          obtain ⟨β, cap', hv, ho, hs⟩ := q3 hfull.symm
          cases hv
          refine ⟨β, cap, ?_, ho, hs⟩
          rw [cutL_length e2 e3]
          simp [addr_add]
        · cases h
          exact OpOk.samef hM e1 (.p hcut)
      · cases h
    · cases h
  · split at h
    · rename_i y hb
      cases h
      obtain ⟨l, r'⟩ := y
      cases hfx with | nsl _ a hn =>
      obtain ⟨e1, e2, e3⟩ := run_sll (P := P) (w := w) hu hi a 0 0 (Nat.le_refl _) lo hi' hb
      obtain rfl : r' = 0 := by omega
      obtain rfl : l = 0 := by omega
      exact OpOk.samef hM e1 (.nsl _ _ (fun h => by rw [hn h]; simp))
    · cases h
  · rename_i b off len z'
    split at h
    · rename_i l r' hb
      cases hfx with | rs b off len _ β cap ho hc =>
      obtain ⟨e1, e2, e3⟩ := run_sll (P := P) (w := w) hu hi _ len cap hc lo hi' hb
      split at h
      · rename_i hl
        subst hl
        cases h
        refine OpOk.samef hM e1 ?_
        have e4 : (if cap = 0 then some (⟨β, off, none⟩ : Addr) else (some (⟨β, off, none⟩ : Addr)).map (·.add (0 * ti.size))) = some ⟨β, off, none⟩ := by split <;> simp [addr_add]
        rw [e4]
        exact .rs b off r' _ β cap ho (by omega)
      · split at h
        · rename_i hlr
          cases h
          subst hlr
          refine OpOk.samef hM e1 (.p ?_)
          rw [Nat.sub_self]
          exact .sl [] _ _ 1 (fun _ => undef) (by simp) (by simp) (by simp) (.inl rfl) (by simp [flat])
        · rename_i hlr
          split at h
          · rename_i hzz
            subst hzz
            cases h
            refine OpOk.samef hM e1 ?_
            rw [if_neg (by omega)]
            simp only [Option.map_some, addr_add]
            refine .rs b _ _ _ β _ ?_ (by omega)
            rcases ho with ho | ⟨ho, ty, hs⟩
            · exact .inl ho
            · refine .inr ⟨ho, ty, ?_⟩
              rw [hs, Nat.add_assoc, ← Nat.add_mul, show l + (cap - l) = cap by omega]
          · cases h
    · cases h
  · cases h

/-! ### Literals -/
theorem rep_block {F} {xs : List PV} {z : Nat} (hz0 : z ≠ 0) (hz : ∀ x ∈ xs, x.cells.length = z) {β cap : Nat} {vs : Array Value} {el fr} (hh : w.heap[β]? = some (.cells vs el fr)) (hcap : xs.length ≤ cap)
    (hs : xs.length * z ≤ vs.size) (hF : ∀ o, o < xs.length * z → ¬ F β o) (hr : ∀ (k : Nat) x v, (flat xs)[k]? = some x → vs[k]? = some v → Rep F w x v) :
    Rep F w (.sl xs) (.slice (some ⟨β, 0, none⟩) xs.length cap) := by
  refine .sl xs _ cap z (fun k => vs.getD k undef) hz0 hcap hz (.inr ⟨β, 0, rfl, fun k hk => ?_⟩) (fun k x hx => ?_)
  · rw [flat_length hz] at hk
    refine ⟨?_, by rw [Nat.zero_add]; exact hF k hk⟩
    simp [World.cell?, hh, show k < vs.size by omega]
  · have hk := (List.getElem?_eq_some_iff.1 hx).1
    rw [flat_length hz] at hk
    exact hr k x _ hx (by simp [show k < vs.size by omega])

theorem toPVn_cases : ∀ (n : Nat) {F : Cells} {ow : Ow} {T : List (Nat × Nat × Nat)} {r : RV} {x : PV} {v : Value}, FRep F w ow T r v → r.toPVn n = some x → Rep F w x v := by
  have mapO_get : ∀ {f : RV → Option PV} {l : List RV} {ys : List PV}, mapO f l = some ys → ys.length = l.length ∧ ∀ (k : Nat) y, ys[k]? = some y → ∃ r, l[k]? = some r ∧ f r = some y := by
    intro f l
    induction l with
    | nil => intro ys h; simp [mapO] at h; subst h; simp
    | cons a l ih =>
      intro ys h
      simp only [mapO] at h
      split at h
      · rename_i y zs hy hzs
        cases h
        obtain ⟨i1, i2⟩ := ih hzs
        refine ⟨by simp [i1], fun k z hz => ?_⟩
        cases k with
        | zero => simp at hz; subst hz; exact ⟨a, rfl, hy⟩
        | succ k => exact i2 k z (by simpa using hz)
      · cases h
  have nslR : ∀ {F : Cells} {a : Option Addr}, Rep F w (.sl []) (.slice a 0 0) := fun {F a} => .sl [] _ 0 1 (fun _ => undef) (by simp) (by simp) (by simp) (.inl rfl) (by simp [flat])
  intro n
  induction n with
  | zero =>
    intro F ow T r x v h hr
    cases h <;> simp only [RV.toPVn, Option.some.injEq, reduceCtorEq] at hr
    · subst hr; assumption
    · subst hr; exact nslR
    · subst hr; assumption
  | succ n ih =>
    intro F ow T r x v h hr
    cases h with
    | p h => simp only [RV.toPVn, Option.some.injEq] at hr; subst hr; exact h
    | nsl b a hb => simp only [RV.toPVn, Option.some.injEq] at hr; subst hr; exact nslR
    | own l t v ht h h' => simp only [RV.toPVn, Option.some.injEq] at hr; subst hr; exact h
    | agg cs vs hl hh =>
      simp only [RV.toPVn, Option.map_eq_some_iff] at hr
      obtain ⟨ys, hys, rfl⟩ := hr
      obtain ⟨i1, i2⟩ := mapO_get hys
      refine .agg ys vs (by omega) (fun k x v a b => ?_)
      obtain ⟨r, hr1, hr2⟩ := i2 k x a
      exact ih (hh k r v hr1 b) hr2
    | tup cs vs hl hh =>
      simp only [RV.toPVn, Option.map_eq_some_iff] at hr
      obtain ⟨ys, hys, rfl⟩ := hr
      obtain ⟨i1, i2⟩ := mapO_get hys
      refine .tup ys vs (by omega) (fun k x v a b => ?_)
      obtain ⟨r, hr1, hr2⟩ := i2 k x a
      exact ih (hh k r v hr1 b) hr2
    | fn f xs ys vs us hv hu hh hh' =>
      simp only [RV.toPVn] at hr
      split at hr
      · rename_i ps qs hps hqs
        cases hr
        obtain ⟨i1, i2⟩ := mapO_get hps
        obtain ⟨j1, j2⟩ := mapO_get hqs
        refine .fn f ps qs vs us (by omega) (by omega) (fun k x v a b => ?_) (fun k x v a b => ?_)
        · obtain ⟨r, hr1, hr2⟩ := i2 k x a
          exact ih (hh k r v hr1 b) hr2
        · obtain ⟨r, hr1, hr2⟩ := j2 k x a
          exact ih (hh' k r v hr1 b) hr2
      · cases hr
    | iface t x v h =>
      simp only [RV.toPVn, Option.map_eq_some_iff] at hr
      obtain ⟨y, hy, rfl⟩ := hr
      exact .iface t y v (ih h hy)
    | _ => simp only [RV.toPVn, reduceCtorEq] at hr
theorem FRep.toPV {F ow T} {r : RV} {x : PV} {v : Value} (h : FRep F w ow T r v) (hr : r.toPV = some x) : Rep F w x v := toPVn_cases 6 h hr
theorem rep_cells {F} {x : PV} {v : Value} (h : Rep F w x v) (ht : x ≠ .top) : v.cells.size = x.cells.length ∧ ∀ (k : Nat) y u, x.cells[k]? = some y → v.cells[k]? = some u → Rep F w y u := by
  have one : ∀ {x : PV} {v : Value}, Rep F w x v → x.cells = [x] → v.cells = #[v] → v.cells.size = x.cells.length ∧ ∀ (k : Nat) y u, x.cells[k]? = some y → v.cells[k]? = some u → Rep F w y u := by
    intro x v h h1 h2
    rw [h1, h2]
    refine ⟨rfl, fun k y u a b => ?_⟩
    cases k with
    | zero => simp at a b; subst a; subst b; exact h
    | succ k => simp at a
  have h0 := h
  cases h with
  | agg cs vs hl hh => exact ⟨by simp [PV.cells, Value.cells, hl], hh⟩
  | top v => exact absurd rfl ht
  | _ => exact one h0 rfl rfl
end
end Go.Ag
/- An abstract machine for Go functions, ninth part: literals of slices, append, make. -/
namespace Go.Ag
open Go
set_option linter.unusedVariables false
set_option linter.unusedSimpArgs false
section
variable {P : Program} {X : Cells} {ow : Ow} {S : Mem} {w : World}

def lim : Nat := 35184372088832

theorem uni_append {z : Nat} {a b : List PV} (ha : ∀ x ∈ a, x.cells.length = z) (hb : ∀ x ∈ b, x.cells.length = z) : ∀ x ∈ a ++ b, x.cells.length = z := by
  intro x hx
  rcases List.mem_append.1 hx with h | h
  · exact ha x h
  · exact hb x h
theorem flat_append (a b : List PV) : flat (a ++ b) = flat a ++ flat b := by simp [flat]

/-! ### A slice literal that nobody appends to -/
theorem ok_bsl (hM : MRel X ow S w) {t e : TypeId} (hu : P.underlying t = some (.slice e)) {ti : TypeInfo} (hi : P.info? e = some ti) {zv : Value} (hz : ti.zero = some zv) (hz0 : ti.size ≠ 0)
    {len : Nat} (hlen0 : len ≠ 0) (hsmall : len * ti.size ≤ 16777216) {rs : List RV} {vs : List Value} {xs : List PV} (hl : rs.length = len) (hvl : vs.length = len)
    (hr : ∀ (k : Nat) r v, rs[k]? = some r → vs[k]? = some v → FRep (FX X ow S.toks) w ow S.toks r v) (hx : RV.toPVs rs = some xs) (huni : uni ti.size xs = true) (hnt : ∀ x ∈ xs, x ≠ .top) :
    ∃ ow' w', ((Instr.buildSlice t len ((vs.zipIdx 0).map fun x => (x.2, x.1)).toArray).run P w = .ok (.slice (some ⟨w.heap.size, 0, none⟩) len len) w') ∧ w'.heap.size = w.heap.size + 1 ∧ ow' = ow ∧
      MRel X ow' S w' ∧ Tr X ow S.toks w ow' S.toks w' ∧ Rep (FX X ow' S.toks) w' (.sl xs) (.slice (some ⟨w.heap.size, 0, none⟩) len len) ∧
      ∃ cells : Array Value, w' = w.alloc (.cells cells e) ∧ cells.size = len * ti.size := by
  have hget : ∀ (k : Nat) x, xs[k]? = some x → ∃ r, rs[k]? = some r ∧ r.toPV = some x := by
    have : ∀ {l : List RV} {ys : List PV}, mapO RV.toPV l = some ys → ys.length = l.length ∧ ∀ (k : Nat) y, ys[k]? = some y → ∃ r, l[k]? = some r ∧ r.toPV = some y := by
      intro l
      induction l with
      | nil => intro ys h; simp [mapO] at h; subst h; simp
      | cons a l ih =>
        intro ys h
        simp only [mapO] at h
        split at h
        · rename_i y zs hy hzs
          cases h
          obtain ⟨i1, i2⟩ := ih hzs
          refine ⟨by simp [i1], fun k z hz => ?_⟩
          cases k with
          | zero => simp at hz; subst hz; exact ⟨a, rfl, hy⟩
          | succ k => exact i2 k z (by simpa using hz)
        · cases h
    exact (this hx).2
  have hxl : xs.length = len := by
    have : ∀ {l : List RV} {ys : List PV}, mapO RV.toPV l = some ys → ys.length = l.length := by
      intro l
      induction l with
      | nil => intro ys h; simp [mapO] at h; subst h; simp
      | cons a l ih =>
        intro ys h
        simp only [mapO] at h
        split at h
        · rename_i y zs hy hzs; cases h; simp [ih hzs]
        · cases h
    rw [this hx, hl]
  have hrep : ∀ (k : Nat) x v, xs[k]? = some x → vs[k]? = some v → Rep (FX X ow S.toks) w x v := by
    intro k x v h1 h2
    obtain ⟨r, h3, h4⟩ := hget k x h1
    exact (hr k r v h3 h2).toPV h4
  have hcells : ∀ v ∈ vs, v.cells.size = ti.size := by
    intro v hv
    obtain ⟨k, hk⟩ := List.getElem?_of_mem hv
    have hkl := (List.getElem?_eq_some_iff.1 hk).1
    have hx' : xs[k]? = some (xs[k]'(by omega)) := List.getElem?_eq_getElem _
    have hm := List.getElem_mem (l := xs) (n := k) (by omega)
    rw [(rep_cells (hrep k _ v hx' hk) (hnt _ hm)).1]
    exact uni_spec huni _ hm
  obtain ⟨res, q1, q2, q3⟩ := Great.fill_dense (s := ti.size) (by omega) vs 0 ((Array.range (len * ti.size)).map (zv.cells[· % zv.cells.size]!)) hcells (by simp [hvl])
  have hrun := run_buildSlice (P := P) w t e len ((vs.zipIdx 0).map fun x => (x.2, x.1)).toArray res ti zv hu hi hz (by omega) (by rw [Nat.mul_eq_zero]; omega) (by simpa using q1)
  obtain ⟨m1, m2⟩ := hM.pushPlain (.cells res e)
  refine ⟨ow, _, hrun, by simp, rfl, m1, m2, ?_, res, rfl, by simp [q2]⟩
  have hsz : res.size = len * ti.size := by rw [q2]; simp
  have := rep_block (F := FX X ow S.toks) (w := w.alloc (.cells res e)) (xs := xs) hz0 (uni_spec huni) (heap_push_new w _) (cap := len) (by omega) (by rw [hxl]; omega)
    (fun o ho hF => by
      have : (ow w.heap.size) = none := by
        cases hq : ow w.heap.size with
        | none => rfl
        | some q => exact absurd (hM.bnd _ _ hq) (by omega)
      rcases hF with hF | hF
      · exact absurd (hM.xb _ _ hF).1 (by omega)
      · unfold Mut at hF; rw [this] at hF; exact hF)
    (fun k x v h1 h2 => by
      have hk := (List.getElem?_eq_some_iff.1 h1).1
      rw [flat_length (uni_spec huni), hxl] at hk
      rw [flat_get hz0 (uni_spec huni)] at h1
      rw [q3, if_pos ⟨by omega, by rw [hvl, Nat.zero_add]; exact hk⟩] at h2
      simp only [Nat.sub_zero] at h2
      simp only [Option.bind_eq_some_iff] at h1 h2
      obtain ⟨y, hy1, hy2⟩ := h1
      obtain ⟨u, hu1, hu2⟩ := h2
      exact ((rep_cells (hrep _ _ _ hy1 hu1) (hnt y (List.mem_of_getElem? hy1))).2 _ _ _ hy2 hu2).mono m2.st)
  rwa [hxl] at this
end
end Go.Ag
/- An abstract machine for Go functions, tenth part: append. -/
namespace Go.Ag
open Go
set_option linter.unusedVariables false
set_option linter.unusedSimpArgs false
section
variable {P : Program} {X : Cells} {ow : Ow} {S : Mem} {w : World}

def strOrSl (d : Option TypeDesc) : Bool :=
  match d with
  | some .string | some (.slice _) => true
  | _ => false
theorem strOrSl_spec {d : Option TypeDesc} (h : strOrSl d = true) : d = some .string ∨ ∃ e, d = some (.slice e) := by
  unfold strOrSl at h
  split at h
  · exact .inl rfl
  · exact .inr ⟨_, rfl⟩
  · cases h

/-- What is appended: so many elements, whose cells are read. -/
structure Src (P : Program) (w : World) (z : Nat) (x : Value) (n : Nat) (new : Array Value) : Prop where
  len : ∀ w', (Builtin.lenOf x).run P w' = .ok n w'
  cells : ∀ w' : World, w'.heap = w.heap → (Builtin.firstCells z n x).run P w' = .ok new w'
  size : new.size = n * z

theorem run_grow {t u ty e : TypeId} {i : TypeInfo} {z : Value} (ht : P.underlying t = some (.slice e)) (hu : strOrSl (P.underlying u) = true) (hi : P.info? e = some i) (hz : i.zero = some z)
    (a : Option Addr) (sLen sCap : Nat) {olds : Array Value} (ho : ∀ w' : World, w'.heap = w.heap → (Builtin.firstCells i.size sLen (.slice a sLen sCap)).run P w' = .ok olds w')
    {x : Value} {n : Nat} {new : Array Value} (hs : Src P w i.size x n new) (hg : sCap < sLen + n) (h63 : sLen + n ≤ 9223372036854775807) (hfit : (sLen + n) * i.bytes ≤ 140737488355328) :
    (Builtin.append_ #[t, u] ty #[.slice a sLen sCap, x]).run P w =
      .ok (.slice (some ⟨w.heap.size, 0, none⟩) (sLen + n) (grownCap w (sLen + n) sCap e))
        (w.drew.alloc (.cells (olds ++ new ++ Builtin.zeroCells z.cells (grownCap w (sLen + n) sCap e - (sLen + n))) e)) := by
  have hn : ¬ (sLen + n ≤ sCap) := by omega
  have h63' : ¬ (9223372036854775807 < ((sLen : Int) + (n : Int))) := by omega
  have hfit' := growslice_fits hg hfit
  have h48' : ¬ (281474976710656 < Builtin.nextslicecap (sLen + n) sCap * i.bytes) := by omega
  have hf := hs.cells w.drew rfl
  have hfo := ho w.drew rfl
  rcases strOrSl_spec hu with hdu | ⟨du, hdu⟩ <;>
    simp [Builtin.append_, run_underlying ht, run_underlying hdu, sizeOf, typeInfo, zeroValue, hi, hz, hs.len, hn, h63', h48', Question.forced, hf, hfo, newRow, grownCap]

theorem run_inplace {t u ty e : TypeId} {i : TypeInfo} (ht : P.underlying t = some (.slice e)) (hu : strOrSl (P.underlying u) = true) (hi : P.info? e = some i)
    (a : Option Addr) (sLen sCap : Nat) {x : Value} {n : Nat} {new : Array Value} (hs : Src P w i.size x n new) (hg : sLen + n ≤ sCap) :
    (Builtin.append_ #[t, u] ty #[.slice a sLen sCap, x]).run P w =
      match a with
      | some a => ((storeCells (a.add (sLen * i.size)) new.toList).run P w).andThen fun _ w' => .ok (.slice (some a) (sLen + n) sCap) w'
      | none => .ok (.slice none (sLen + n) sCap) w := by
  have hf := hs.cells w rfl
  rcases strOrSl_spec hu with hdu | ⟨du, hdu⟩ <;>
    cases a <;> simp [Builtin.append_, run_underlying ht, run_underlying hdu, sizeOf, typeInfo, hi, hs.len, hg, hf]

/-- A row of pure values, read off. -/
theorem src_of_rep {F} {xs : List PV} {z : Nat} (hz0 : z ≠ 0) (hz : ∀ x ∈ xs, x.cells.length = z) {v : Value} (h : Rep F w (.sl xs) v) :
    ∃ new : Array Value, Src P w z v xs.length new ∧ (∀ (k : Nat) x u, (flat xs)[k]? = some x → new[k]? = some u → Rep F w x u) := by
  cases h with | sl l a cap esz u h1 h2 h3 h4 h5 =>
  by_cases he : xs = []
  · subst he
    refine ⟨#[], ⟨fun w' => rfl, fun w' _ => ?_, by simp⟩, by simp⟩
    cases a with
    | none => simp [Builtin.firstCells]
    | some a => simp [Builtin.firstCells, loadCells, loadCellsFrom]
  · rcases h4 with rfl | ⟨β, o, rfl, hc⟩
    · exact absurd rfl he
    · have hfl := flat_length hz
      refine ⟨((List.range (xs.length * z)).map u).toArray, ⟨fun w' => rfl, fun w' hw => ?_, by simp⟩, fun k x q a b => ?_⟩
      · simp only [Builtin.firstCells]
        refine run_loadCells w' _ _ u (fun j hj => ?_)
        rw [addr_add]
        have := (hc j (by omega)).1
        unfold World.cell? at *
        rw [hw]; exact this
      · have hk := (List.getElem?_eq_some_iff.1 a).1
        rw [hfl] at hk
        simp [hk] at b
        subst b
        exact h5 k x a
def byteV (b : UInt8) : PV := .int .u8 b.toNat
theorem flat_bytes (s : List UInt8) : flat (s.map byteV) = s.map byteV := by
  induction s with
  | nil => rfl
  | cons b s ih => rw [List.map_cons, flat_cons, ih]; rfl
theorem uni_bytes (s : List UInt8) : ∀ x ∈ s.map byteV, x.cells.length = 1 := by
  intro x hx
  obtain ⟨b, _, rfl⟩ := List.mem_map.1 hx
  rfl
theorem src_of_str {F} (s : List UInt8) : ∃ new : Array Value, Src P w 1 (.string ⟨⟨s⟩⟩) (s.map byteV).length new ∧ (∀ (k : Nat) x u, (flat (s.map byteV))[k]? = some x → new[k]? = some u → Rep F w x u) := by
  have hsz : (ByteArray.mk ⟨s⟩).size = s.length := rfl
  refine ⟨(s.map fun b => Value.int .u8 b.toNat).toArray, ⟨fun w' => by simp [Builtin.lenOf, hsz], fun w' _ => ?_, by simp⟩, fun k x u a b => ?_⟩
  · simp only [Builtin.firstCells, List.length_map, extract_bytes, cutL, Nat.sub_zero, List.drop_zero, List.take_length, Sem.run_pure]
    simp
  · rw [flat_bytes] at a
    simp only [List.getElem?_map, List.getElem?_toArray, Option.map_eq_some_iff] at a b
    obtain ⟨c, hc, rfl⟩ := a
    obtain ⟨d, hd, rfl⟩ := b
    rw [hc] at hd
    cases hd
    exact .int _ _

theorem src_one (new : Array Value) (h : ∀ u ∈ new.toList, u.oneCell' = true) : True := trivial

/-- Tokens: the row moves to a new block. -/
def owMove (ow : Ow) (N t : Nat) : Ow := fun β => if β = N then some (.tok t) else match ow β with
  | some (.tok t') => if t' = t then none else some (.tok t')
  | q => q
theorem owMove_old {ow : Ow} {N t β : Nat} (h : β < N) (ht : ow β ≠ some (.tok t)) : owMove ow N t β = ow β := by
  unfold owMove
  rw [if_neg (by omega)]
  split
  · rename_i t' h'
    split
    · subst_vars; exact absurd h' ht
    · exact h'.symm
  · rfl
theorem owMove_some {ow : Ow} {N t β : Nat} {o : Owner} (h : owMove ow N t β = some o) : (β = N ∧ o = .tok t) ∨ (β ≠ N ∧ ow β = some o ∧ o ≠ .tok t) := by
  unfold owMove at h
  split at h
  · left; cases h; exact ⟨by assumption, rfl⟩
  · right
    refine ⟨by assumption, ?_⟩
    split at h
    · rename_i t' h'
      split at h
      · cases h
      · cases h; exact ⟨h', fun e => by cases e; contradiction⟩
    · rename_i hne
      exact ⟨h, fun e => hne t (by rw [h, e])⟩

theorem MRel.moveTok {X ow S w t e n} {z : Nat × Nat} (hM : MRel X ow S w) (hz : z.1 ≠ 0) (hS : S.toks[t]? = some (e, z)) (hn : n ≠ 0) (vs : Array Value) (hs : (e + n) * z.1 ≤ vs.size) :
    MRel X (owMove ow w.heap.size t) { S with toks := S.toks.set t (e + n, z) } (w.alloc (.cells vs z.2)) ∧
      Tr X ow S.toks w (owMove ow w.heap.size t) (S.toks.set t (e + n, z)) (w.alloc (.cells vs z.2)) := by
  have htl : t < S.toks.length := (List.getElem?_eq_some_iff.1 hS).1
  have tr : Tr X ow S.toks w (owMove ow w.heap.size t) (S.toks.set t (e + n, z)) (w.alloc (.cells vs z.2)) :=
    { st := fun β o u h k => by
        have hb := cell_lt h
        refine ⟨cell_push _ h, fun hx => k ?_⟩
        rcases hx with hx | hx
        · exact .inl hx
        · right
          unfold Mut at hx
          cases hq : owMove ow w.heap.size t β with
          | none => rw [hq] at hx; exact hx.elim
          | some q =>
            rw [hq] at hx
            rcases owMove_some hq with ⟨h1, _⟩ | ⟨_, h2, h3⟩
            · omega
            · unfold Mut
              rw [h2]
              cases q with
              | mem b => trivial
              | loc d => trivial
              | tok t' =>
                obtain ⟨e', z', h4, h5⟩ := hx
                rw [List.getElem?_set] at h4
                split at h4
                · rename_i ht
                  exact absurd (by rw [ht]) h3
                · exact ⟨e', z', h4, h5⟩
      mem := fun β b h => .inr ⟨by rw [owMove_old (hM.bnd _ _ h) (by rw [h]; intro e; cases e), h], by unfold World.shape?; rw [heap_push _ (hM.bnd _ _ h)]⟩
      tl := by simp
      tok := fun t' e' z' _ h => by
        rw [List.getElem?_set] at h
        split at h
        · rename_i ht
          subst ht
          simp [htl] at h
          obtain ⟨rfl, rfl⟩ := h
          exact ⟨e, hS, by omega, fun h0 => absurd h0 hz, fun heq => by omega⟩
        · rename_i ht
          refine ⟨e', h, Nat.le_refl _, fun _ => rfl, fun _ β sh a b => ?_⟩
          have hb := hM.bnd _ _ a
          refine ⟨by rw [owMove_old hb (by rw [a]; intro e; cases e; exact ht rfl), a], ?_⟩
          unfold World.shape? at *
          rw [heap_push _ hb]; exact b
      fr := fun β hb hn' => ⟨by rw [owMove_old hb (by rw [hn']; intro e; cases e), hn'], heap_push _ hb⟩
      size := by simp
      os := rfl
      tape := rfl
      output := rfl }
  refine ⟨MRel.next (S' := { S with toks := S.toks.set t (e + n, z) }) hM tr ?_ ?_ ?_ ?_ (fun β d h => by
    rcases owMove_some h with ⟨h1, h2⟩ | ⟨h1, h2, h3⟩
    · cases h2
    · exact hM.locin _ _ h2) (fun _ h => dead_set hz h) (Nat.le_refl _) ?_ ?_ ?_, tr⟩
  · intro β β' o h h'
    rcases owMove_some h with ⟨h1, h2⟩ | ⟨h1, h2, h3⟩ <;> rcases owMove_some h' with ⟨h4, h5⟩ | ⟨h4, h5, h6⟩
    · omega
    · exact absurd h2 h6
    · exact absurd h5 h3
    · exact hM.inj _ _ _ h2 h5
  · intro β o h
    simp only [World.size_alloc]
    rcases owMove_some h with ⟨h1, h2⟩ | ⟨h1, h2, h3⟩
    · omega
    · have := hM.bnd _ _ h2; omega
  · intro β b h
    rcases owMove_some h with ⟨h1, h2⟩ | ⟨h1, h2, h3⟩
    · cases h2
    · exact hM.memlt _ _ h2
  · intro β q h
    simp only [List.length_set]
    rcases owMove_some h with ⟨h1, h2⟩ | ⟨h1, h2, h3⟩
    · cases h2; exact htl
    · exact hM.toklt _ _ h2
  · intro b k h
    exact .inl ⟨h, fun β a => heap_push _ (hM.bnd _ _ a)⟩
  · intro d cs' h
    exact .inl ⟨h, fun β a => ⟨by rw [owMove_old (hM.bnd _ _ a) (by rw [a]; intro e; cases e), a], heap_push _ (hM.bnd _ _ a)⟩⟩
  · intro t' e' z' h
    simp only [List.getElem?_set] at h
    split at h
    · rename_i ht
      subst ht
      simp [htl] at h
      obtain ⟨rfl, rfl⟩ := h
      exact .inr ⟨w.heap.size, vs, (0, 0), by unfold owMove; rw [if_pos rfl], heap_push_new w _, hs, Nat.zero_le _⟩
    · rename_i ht
      exact .inl ⟨h, fun β a => ⟨by rw [owMove_old (hM.bnd _ _ a) (by rw [a]; intro e; cases e; exact ht rfl), a], heap_push _ (hM.bnd _ _ a)⟩⟩

def appA (z ty bytes : Nat) (r : RV) (xs : List PV) (S : Mem) : Option (RV × Mem) :=
  if uni z xs then
    match r with
    | .nsl b => if xs.isEmpty then some (.nsl b, S) else
      if xs.length * bytes ≤ lim then some (.own xs S.toks.length, { S with toks := S.toks ++ [(xs.length, z, ty)] }) else none
    | .own l t => match S.toks[t]? with
      | some (e, z') => if e = l.length ∧ z' = (z, ty) then
          (if xs.isEmpty then some (.own l t, S) else
            if (l.length + xs.length) * bytes ≤ lim then some (.own (l ++ xs) t, { S with toks := S.toks.set t (l.length + xs.length, z, ty) }) else none)
        else none
      | none => none
    | _ => none
  else none

theorem ok_app (hM : MRel X ow S w) {t u ty e : TypeId} {ti : TypeInfo} {zv : Value} (ht : P.underlying t = some (.slice e)) (hu : strOrSl (P.underlying u) = true) (hi : P.info? e = some ti) (hz : ti.zero = some zv)
    (hzs : zv.cells.size = ti.size) (hz0 : ti.size ≠ 0) (hb0 : ti.bytes ≠ 0) {r r' : RV} {v x : Value} {xs : List PV} {new : Array Value} {S' : Mem}
    (hr : RRep (FX X ow S.toks) w ow S.toks r v) (hs : Src P w ti.size x xs.length new) (hnew : ∀ (k : Nat) y q, (flat xs)[k]? = some y → new[k]? = some q → Rep (FX X ow S.toks) w y q)
    (hone : ∀ q ∈ new.toList, q.oneCell' = true) (h : appA ti.size e ti.bytes r xs S = some (r', S')) : OpOk X ow S w ((Builtin.append_ #[t, u] ty #[v, x]).run P w) r' S' none := by
  have hfr : FRep (FX X ow S.toks) w ow S.toks r v := hr.f (by unfold appA at h; cases r <;> simp_all [RV.fc])
  have fresh : ow w.heap.size = none := by
    cases hq : ow w.heap.size with
    | none => rfl
    | some q => exact absurd (hM.bnd _ _ hq) (by omega)
  unfold appA at h
  split at h
  · rename_i huni
    have hux := uni_spec huni
    have hfl := flat_length hux
    split at h
    · -- nothing was there
      cases hfr with | nsl _ a hnil =>
      split at h
      · rename_i he
        have he' : xs = [] := by simpa using he
        subst he'
        cases h
        refine ⟨_, ow, w, ?_, hM, Tr.refl _ _ _ _, fun _ _ h _ => h, .inr (.nsl _ a hnil)⟩
        rw [run_inplace ht hu hi a 0 0 hs (by simp)]
        have hn0 : new = #[] := by
          have := hs.size; simp at this; exact this
        subst hn0
        cases a <;> simp [storeCells]
      · rename_i he
        have hne : xs.length ≠ 0 := by
          intro h0; exact he (by simp [List.length_eq_zero_iff.1 h0])
        split at h
        · rename_i hlim
          cases h
          have hb1 : xs.length ≤ xs.length * ti.bytes := Nat.le_mul_of_pos_right _ (by omega)
          unfold lim at hlim
          have hold : ∀ w' : World, w'.heap = w.heap → (Builtin.firstCells ti.size 0 (.slice a 0 0)).run P w' = .ok #[] w' := by
            intro w' _
            cases a <;> simp [Builtin.firstCells, loadCells, loadCellsFrom]
          have hrun := run_grow (P := P) (w := w) (ty := ty) ht hu hi hz a 0 0 hold hs (by omega) (by omega) (by simpa using (by omega : xs.length * ti.bytes ≤ 140737488355328))
          have hM1 : MRel X ow S w.drew := hM.heap rfl rfl rfl rfl
          simp only [Nat.zero_add] at hrun
          have hcap := grownCap_ge w xs.length 0 e
          generalize hC : grownCap w xs.length 0 e = C at *
          have hbs : (#[] ++ new ++ Builtin.zeroCells zv.cells (C - xs.length)).size = C * ti.size := by
            simp only [Array.size_append, hs.size, Builtin.zeroCells, Array.size_map, Array.size_range, hzs, List.size_toArray, List.length_nil]
            rw [Nat.zero_add, ← Nat.add_mul]
            congr 1
            omega
          obtain ⟨m1, m2⟩ := hM1.pushTok (#[] ++ new ++ Builtin.zeroCells zv.cells (C - xs.length)) xs.length (ti.size, e) hz0 (by rw [hbs]; exact Nat.mul_le_mul_right _ (by omega))
          have tr := (Tr.heap (X := X) (ow := ow) (T := S.toks) (w := w) (w' := w.drew) rfl rfl rfl rfl).trans m2
          have hrow : (w.drew.alloc (.cells (#[] ++ new ++ Builtin.zeroCells zv.cells (C - xs.length)) e)).heap[w.heap.size]? = some (.cells (#[] ++ new ++ Builtin.zeroCells zv.cells (C - xs.length)) e) := heap_push_new w.drew _
          have hown : owNew ow w.drew.heap.size (.tok S.toks.length) w.heap.size = some (.tok S.toks.length) := owNew_new
          refine ⟨_, _, _, hrun, m1, tr, fun β d h _ => by have := @owNew_old ow w.drew.heap.size β (.tok S.toks.length) (hM.bnd _ _ h); rw [this, h], .inr (.own _ _ _ (by simp) ?_ ?_)⟩
          · refine rep_block hz0 hux hrow (by omega) (by rw [hbs]; exact Nat.mul_le_mul_right _ (by omega)) (fun o ho hF => ?_) (fun k y q h1 h2 => ?_)
            · rcases hF with hF | hF
              · exact absurd (hM.xb _ _ hF).1 (by omega)
              · unfold Mut at hF
                rw [hown] at hF
                obtain ⟨e', z', h1, h2⟩ := hF
                simp at h1
                obtain ⟨rfl, rfl⟩ := h1
                simp only at h2
                omega
            · have hk := (List.getElem?_eq_some_iff.1 h1).1
              rw [hfl] at hk
              rw [Array.getElem?_append_left (by simp [hs.size]; omega)] at h2
              exact (hnew k y q h1 (by simpa using h2)).mono tr.st
          · intro e' z' he'
            simp at he'
            obtain ⟨rfl, rfl⟩ := he'
            refine ⟨Nat.le_refl _, hux, fun _ => ⟨w.heap.size, C, rfl, hown, ?_⟩⟩
            unfold World.shape?
            rw [hrow]
            simp only [Option.some.injEq, Prod.mk.injEq, true_and]
            rw [hbs]
        · cases h
    · -- a row of one's own
      rename_i l t'
      split at h
      · rename_i e0 z0 htok
        split at h
        · rename_i hez
          obtain ⟨rfl, rfl⟩ := hez
          cases hfr with | own _ _ v ht' hrep h' =>
          obtain ⟨q1, q2, q3⟩ := h' _ _ htok
          obtain ⟨β, cap, rfl, hoβ, hsh⟩ := q3 rfl
          have hzz := hz0
          obtain ⟨β', vs, fr, hoβ', hh, hle, hfz⟩ := hM.tok _ _ _ htok hz0
          simp only at hle hfz q2 hsh
          obtain rfl := hM.inj _ _ _ hoβ hoβ'
          have hvs : vs.size = cap * ti.size := by
            unfold World.shape? at hsh
            rw [hh] at hsh
            simp at hsh
            exact hsh
          have hlcap : l.length ≤ cap := by
            refine Nat.le_of_mul_le_mul_right (c := ti.size) ?_ (by omega)
            omega
          split at h
          · rename_i he
            have he' : xs = [] := by simpa using he
            subst he'
            cases h
            refine ⟨_, ow, w, ?_, hM, Tr.refl _ _ _ _, fun _ _ h _ => h, .inr (.own _ _ _ ht' hrep h')⟩
            rw [run_inplace ht hu hi _ l.length cap hs (by simpa using hlcap)]
            have hn0 : new = #[] := by
              have := hs.size; simp at this; exact this
            subst hn0
            simp [storeCells]
          · rename_i he
            have hne : xs.length ≠ 0 := by
              intro h0; exact he (by simp [List.length_eq_zero_iff.1 h0])
            split at h
            · rename_i hlim
              cases h
              have hb1 : l.length + xs.length ≤ (l.length + xs.length) * ti.bytes := Nat.le_mul_of_pos_right _ (by omega)
              unfold lim at hlim
              have hul := uni_append q2 hux
              have hmul : (l.length + xs.length) * ti.size = l.length * ti.size + xs.length * ti.size := Nat.add_mul _ _ _
              have hfll := flat_length q2
              have hlen : (l ++ xs).length = l.length + xs.length := List.length_append
              have hns : new.size = xs.length * ti.size := hs.size
              by_cases hin : l.length + xs.length ≤ cap
              · -- there is room
                have hsz : new.toList.length = xs.length * ti.size := by simpa using hs.size
                have hroom : (l.length + xs.length) * ti.size ≤ vs.size := by rw [hvs]; exact Nat.mul_le_mul_right _ hin
                obtain ⟨m1, m2⟩ := hM.writeTok htok hoβ hh hz0 hsz hroom
                have hstore : (storeCells ((⟨β, 0, none⟩ : Addr).add (l.length * ti.size)) new.toList).run P w = .ok () (w.setCells β (l.length * ti.size) new.toList) := by
                  rw [addr_add, Nat.zero_add]
                  have := run_storeCells_cells (P := P) β (l.length * ti.size) new.toList 0 w (fun j hj => by simp [World.cell?, hh, show l.length * ti.size + j < vs.size by omega]) (fun j hj => by
                    obtain ⟨lo, hi'⟩ := fr
                    simp only [World.frozen?, hh, Nat.add_zero, Bool.and_eq_false_iff, decide_eq_false_iff_not]
                    simp only at hfz
                    omega) hone
                  simpa using this
                have hrow := setCells_row β e fr new.toList (l.length * ti.size) vs w hh (by omega)
                refine ⟨_, _, _, by rw [run_inplace ht hu hi _ l.length cap hs hin]; simp only [hstore, Result.andThen_ok]; rfl, m1, m2, fun _ _ h _ => h, .inr (.own _ _ _ (by simpa using ht') ?_ ?_)⟩
                · have R : Rep (FX X ow (S.toks.set t' (l.length + xs.length, ti.size, e))) (w.setCells β (l.length * ti.size) new.toList) (.sl (l ++ xs)) (.slice (some ⟨β, 0, none⟩) (l ++ xs).length cap) := ?_
                  · rw [hlen] at R; exact R
                  refine rep_block hz0 hul hrow (by omega) ?_ (fun o ho hF => ?_) (fun k y q h1 h2 => ?_)
                  · simp only [List.size_toArray, over_length vs.toList (l.length * ti.size) new.toList (by simp; omega), Array.length_toList]
                    rw [hlen]; exact hroom
                  · rw [hlen] at ho
                    rcases hF with hF | hF
                    · have := (hM.xb _ _ hF).2; rw [hoβ] at this; cases this
                    · unfold Mut at hF
                      rw [hoβ] at hF
                      obtain ⟨e', z', h1, h2⟩ := hF
                      rw [List.getElem?_set] at h1
                      simp [show t' < S.toks.length from ht'] at h1
                      obtain ⟨rfl, rfl⟩ := h1
                      simp only at h2
                      omega
                  · simp only [List.getElem?_toArray] at h2
                    rw [over_get _ _ _ (by simp; omega)] at h2
                    rw [flat_append] at h1
                    by_cases hk : k < l.length * ti.size
                    · rw [if_neg (by omega)] at h2
                      rw [List.getElem?_append_left (by omega)] at h1
                      generalize hv : Value.slice (some (⟨β, 0, none⟩ : Addr)) l.length cap = vv at hrep
                      cases hrep with | sl _ a' cap' esz uu c1 c2 c3 c4 c5 =>
                      cases hv
                      rcases c4 with rfl | ⟨β2, o2, heq, hc⟩
                      · simp at hk
                      · cases heq
                        have hcell := (hc k (by omega)).1
                        rw [Nat.zero_add] at hcell
                        have : vs[k]? = some (uu k) := by simpa [World.cell?, hh] using hcell
                        rw [Array.getElem?_toList, this] at h2
                        cases h2
                        exact (c5 k y h1).mono m2.st
                    · rw [List.getElem?_append_right (by omega), hfll] at h1
                      have hk2 := (List.getElem?_eq_some_iff.1 h1).1
                      rw [if_pos (by omega)] at h2
                      exact (hnew _ y q h1 (by simpa using h2)).mono m2.st
                · intro e' z' he'
                  rw [List.getElem?_set] at he'
                  simp [show t' < S.toks.length from ht'] at he'
                  obtain ⟨rfl, rfl⟩ := he'
                  refine ⟨by omega, hul, fun _ => ⟨β, cap, by rw [hlen], hoβ, ?_⟩⟩
                  unfold World.shape?
                  rw [hrow]
                  simp only [Option.some.injEq, Prod.mk.injEq, true_and, List.size_toArray, over_length vs.toList (l.length * ti.size) new.toList (by simp; omega), Array.length_toList]
                  exact hvs
              · -- a new block
                obtain ⟨olds, so, ho⟩ := src_of_rep (P := P) hz0 q2 hrep
                have hrun := run_grow (P := P) (w := w) (ty := ty) ht hu hi hz _ l.length cap so.cells hs (by omega) (by omega) (by omega)
                have hM1 : MRel X ow S w.drew := hM.heap rfl rfl rfl rfl
                have hcap := grownCap_ge w (l.length + xs.length) cap e
                generalize hC : grownCap w (l.length + xs.length) cap e = C at *
                have hbs : (olds ++ new ++ Builtin.zeroCells zv.cells (C - (l.length + xs.length))).size = C * ti.size := by
                  simp only [Array.size_append, hs.size, so.size, Builtin.zeroCells, Array.size_map, Array.size_range, hzs]
                  rw [← Nat.add_mul, ← Nat.add_mul]
                  congr 1
                  omega
                obtain ⟨m1, m2⟩ := hM1.moveTok hz0 htok hne (olds ++ new ++ Builtin.zeroCells zv.cells (C - (l.length + xs.length))) (by rw [hbs]; exact Nat.mul_le_mul_right _ (by omega))
                have tr := (Tr.heap (X := X) (ow := ow) (T := S.toks) (w := w) (w' := w.drew) rfl rfl rfl rfl).trans m2
                have hrow : (w.drew.alloc (.cells (olds ++ new ++ Builtin.zeroCells zv.cells (C - (l.length + xs.length))) e)).heap[w.heap.size]? = some (.cells (olds ++ new ++ Builtin.zeroCells zv.cells (C - (l.length + xs.length))) e) := heap_push_new w.drew _
                have hown : owMove ow w.drew.heap.size t' w.heap.size = some (.tok t') := if_pos rfl
                refine ⟨_, _, _, hrun, m1, tr, fun β d h _ => by have := @owMove_old ow w.drew.heap.size t' β (hM.bnd _ _ h) (by rw [h]; intro e; cases e); rw [this, h], .inr (.own _ _ _ (by simpa using ht') ?_ ?_)⟩
                · have R : Rep (FX X (owMove ow w.drew.heap.size t') (S.toks.set t' (l.length + xs.length, ti.size, e))) (w.drew.alloc (.cells (olds ++ new ++ Builtin.zeroCells zv.cells (C - (l.length + xs.length))) e)) (.sl (l ++ xs)) (.slice (some ⟨w.heap.size, 0, none⟩) (l ++ xs).length C) := ?_
                  · rw [hlen] at R; exact R
                  refine rep_block hz0 hul hrow (by omega) (by rw [hbs, hlen]; exact Nat.mul_le_mul_right _ (by omega)) (fun o ho hF => ?_) (fun k y q h1 h2 => ?_)
                  · rw [hlen] at ho
                    rcases hF with hF | hF
                    · exact absurd (hM.xb _ _ hF).1 (by omega)
                    · unfold Mut at hF
                      rw [hown] at hF
                      obtain ⟨e', z', h1, h2⟩ := hF
                      rw [List.getElem?_set] at h1
                      simp [show t' < S.toks.length from ht'] at h1
                      obtain ⟨rfl, rfl⟩ := h1
                      simp only at h2
                      omega
                  · rw [flat_append] at h1
                    by_cases hk : k < l.length * ti.size
                    · rw [List.getElem?_append_left (by omega)] at h1
                      rw [Array.getElem?_append_left (by simp [hs.size, so.size]; omega), Array.getElem?_append_left (by simp [so.size]; omega)] at h2
                      exact (ho k y q h1 h2).mono tr.st
                    · rw [List.getElem?_append_right (by omega), hfll] at h1
                      have hk2 := (List.getElem?_eq_some_iff.1 h1).1
                      rw [hfl] at hk2
                      rw [Array.getElem?_append_left (by simp [hs.size, so.size]; omega), Array.getElem?_append_right (by simp [so.size]; omega), so.size] at h2
                      exact (hnew _ y q h1 h2).mono tr.st
                · intro e' z' he'
                  rw [List.getElem?_set] at he'
                  simp [show t' < S.toks.length from ht'] at he'
                  obtain ⟨rfl, rfl⟩ := he'
                  refine ⟨by omega, hul, fun _ => ⟨w.heap.size, C, by rw [hlen], hown, ?_⟩⟩
                  unfold World.shape?
                  rw [hrow]
                  simp only [Option.some.injEq, Prod.mk.injEq, true_and]
                  rw [hbs]
            · cases h
        · cases h
      · cases h
    · cases h
  · cases h
end
end Go.Ag
/- An abstract machine for Go functions, eleventh part: make, conversions, small operations. -/
namespace Go.Ag
open Go
set_option linter.unusedVariables false
set_option linter.unusedSimpArgs false
section
variable {P : Program} {X : Cells} {ow : Ow} {S : Mem} {w : World}

/-! ### Small operations -/
def unA (o : UnOp) (x : RV) : Option RV :=
  match o, x with
  | .neg, .p (.int k n) => some (.p (.int k (k.wrap (0 - n))))
  | .not, .p (.bool b) => some (.p (.bool (!b)))
  | .not, .p .ab => some (.p .ab)
  | .xor, .p (.int k n) => (intBin .xor k (if k.signed then -1 else k.max) n).map .p
  | _, _ => none
theorem ok_un (hM : MRel X ow S w) {o : UnOp} {x r : RV} {v : Value} (hx : RRep (FX X ow S.toks) w ow S.toks x v) (h : unA o x = some r) : OpOk X ow S w ((Op.unary o v).run P w) r S none := by
  have hfx : FRep (FX X ow S.toks) w ow S.toks x v := hx.f (by unfold unA at h; cases o <;> cases x <;> simp_all [RV.fc])
  unfold unA at h
  split at h
  · cases h
    cases hfx with | p hfx => cases hfx with | int =>
    exact OpOk.samef hM (by simp [Op.unary, Op.intArith]) (.p (.int _ _))
  · cases h
    cases hfx with | p hfx => cases hfx with | bool =>
    exact OpOk.samef hM (by simp [Op.unary]) (.p (.bool _))
  · cases h
    cases hfx with | p hfx => cases hfx with | ab b =>
    exact OpOk.samef hM (v := .bool (!b)) (by simp [Op.unary]) (.p (.ab _))
  · cases hfx with | p hfx => cases hfx with | int =>
    simp only [intBin, Option.map_some, Option.some.injEq] at h
    subst h
    exact OpOk.samef hM (by simp only [Op.unary, Op.intBits, Sem.run_pure]) (.p (.int _ _))
  · cases h

theorem ok_cint (hM : MRel X ow S w) {src dst : TypeId} {k k0 : IntKind} {n : Int} {ds : TypeDesc} (hs : P.underlying src = some ds) (hd : P.underlying dst = some (.int k)) :
    OpOk X ow S w ((convert src dst (.int k0 n)).run P w) (.p (.int k (k.wrap n))) S none := by
  refine OpOk.samef hM ?_ (.p (.int k (k.wrap n)))
  have : P.intKind dst = k := by simp [Program.intKind, hd]
  rw [run_convert_int w src dst k0 n (by rw [hs]; rfl) (by rw [this]; exact hd), this]

theorem ok_i2s (hM : MRel X ow S w) {src dst : TypeId} {k0 : IntKind} {n : Int} {ds : TypeDesc} (hs : P.underlying src = some ds) (hd : P.underlying dst = some .string) :
    OpOk X ow S w ((convert src dst (.int k0 n)).run P w) (.p (.str (Utf8.encode n).data.toList)) S none := by
  refine OpOk.samef hM (v := .string (Utf8.encode n)) ?_ ?_
  · simp [convert, run_underlying hs, run_underlying hd, Conv.intToString]
  · generalize Utf8.encode n = b
    cases b with | mk d => cases d with | mk l => exact .p (.str l)

theorem ok_mkif (hM : MRel X ow S w) {t : TypeId} {d : TypeDesc} (hu : P.underlying t = some d) (hd : ∀ ms, d ≠ .interface ms) {x : RV} {v : Value} (hx : FRep (FX X ow S.toks) w ow S.toks x v) :
    OpOk X ow S w ((Instr.makeInterface t v).run P w) (.iface t x) S none := by
  refine OpOk.samef hM ?_ (.iface t x v hx)
  simp only [Instr.makeInterface, Sem.run_bind, run_underlying hu, Result.andThen_ok]
  cases d <;> first | rfl | exact absurd rfl (hd _)

theorem ok_mkfn (hM : MRel X ow S w) {f : FuncId} {xs ys : List RV} {vs us : Array Value} (hv : vs.size = xs.length) (hu : us.size = ys.length)
    (h : ∀ (k : Nat) x v, xs[k]? = some x → vs[k]? = some v → FRep (FX X ow S.toks) w ow S.toks x v) (h' : ∀ (k : Nat) x v, ys[k]? = some x → us[k]? = some v → FRep (FX X ow S.toks) w ow S.toks x v) :
    OpOk X ow S w ((Instr.makeFunc (.func f) vs us).run P w) (.fn f xs ys) S none :=
  OpOk.samef hM (by simp [Instr.makeFunc]) (.fn f xs ys vs us hv hu h h')

def nilA (x : RV) : Option RV :=
  match x with
  | .p (.ro cs) => some (.p (.ro cs))
  | .ptr b o => some (.ptr b o)
  | .la d o => some (.la d o)
  | .fn f a b => some (.fn f a b)
  | .p (.fn f a b) => some (.p (.fn f a b))
  | _ => none
/-- What is behind a nilCheck: the value itself. -/
theorem nil_same {F ow T} {x r : RV} {v : Value} (hx : RRep F w ow T x v) (h : nilA x = some r) : r = x ∧ ((∃ a, v = .pointer (some a)) ∨ ∃ f a b, v = .func (.func f) a b) := by
  rcases hx with ⟨d, off, β, rfl, ho, rfl⟩ | hx
  · simp only [nilA, Option.some.injEq] at h
    exact ⟨h.symm, .inl ⟨_, rfl⟩⟩
  · unfold nilA at h
    split at h
    · cases h; cases hx with | p hx => cases hx; exact ⟨rfl, .inl ⟨_, rfl⟩⟩
    · cases h; cases hx; exact ⟨rfl, .inl ⟨_, rfl⟩⟩
    · cases hx
    · cases h; cases hx; exact ⟨rfl, .inr ⟨_, _, _, rfl⟩⟩
    · cases h; cases hx with | p hx => cases hx; exact ⟨rfl, .inr ⟨_, _, _, rfl⟩⟩
    · cases h

/-! ### Make -/
def mksA (z ty bytes : Nat) (zc : List RV) (len cap : Int) (S : Mem) : Option (RV × Mem) :=
  if 0 ≤ len ∧ len ≤ cap ∧ cap * bytes ≤ lim then
    some (.rs S.mem.length 0 len.toNat z, { S with mem := S.mem ++ [.cells (2 * ty) (List.replicate cap.toNat zc).flatten] })
  else none

theorem replicate_flatten_get {α : Type} (l : List α) (hl : l.length ≠ 0) : ∀ (n k : Nat), (List.replicate n l).flatten[k]? = if k < n * l.length then l[k % l.length]? else none
  | 0, k => by simp
  | n + 1, k => by
    rw [List.replicate_succ, List.flatten_cons]
    have e : (n + 1) * l.length = n * l.length + l.length := Nat.succ_mul _ _
    by_cases hk : k < l.length
    · rw [List.getElem?_append_left hk, if_pos (by omega), Nat.mod_eq_of_lt hk]
    · rw [List.getElem?_append_right (by omega), replicate_flatten_get l hl n]
      rw [Nat.mod_eq_sub_mod (a := k) (by omega)]
      by_cases h2 : k < (n + 1) * l.length
      · rw [if_pos (by omega), if_pos h2]
      · rw [if_neg (by omega), if_neg h2]

theorem wrap_small {n : Int} (h0 : 0 ≤ n) (h1 : n ≤ 35184372088832) : IntKind.i64.wrap n = n := by
  exact IntWalk.i64_in _ (by omega)

theorem ok_mks (hM : MRel X ow S w) {t e : TypeId} {ti : TypeInfo} {zv : Value} (ht : P.underlying t = some (.slice e)) (hi : P.info? e = some ti) (hz : ti.zero = some zv) (hzs : zv.cells.size = ti.size) (hz0 : ti.size ≠ 0) (hb0 : ti.bytes ≠ 0)
    {k1 k2 : IntKind} {len cap : Int} {r : RV} {S' : Mem} (h : mksA ti.size e ti.bytes (zeroCells zv) len cap S = some (r, S')) : OpOk X ow S w ((Instr.makeSlice t (.int k1 len) (.int k2 cap)).run P w) r S' none := by
  unfold mksA at h
  split at h
  · rename_i hr
    obtain ⟨h0, h1, h2⟩ := hr
    cases h
    unfold lim at h2
    have hb : cap ≤ cap * ti.bytes := by
      have : cap * 1 ≤ cap * (ti.bytes : Int) := Int.mul_le_mul_of_nonneg_left (by omega) (by omega)
      omega
    have hb' : len * ti.bytes ≤ cap * ti.bytes := Int.mul_le_mul_of_nonneg_right h1 (by omega)
    have w1 := wrap_small h0 (by omega)
    have w2 := wrap_small (n := cap) (by omega) (by omega)
    have hn : cap.toNat * ti.size ≠ 0 ∨ cap.toNat = 0 := by
      rcases Nat.eq_zero_or_pos cap.toNat with h | h
      · exact .inr h
      · exact .inl (Nat.mul_ne_zero (by omega) hz0)
    have hrun : (Instr.makeSlice t (.int k1 len) (.int k2 cap)).run P w = .ok (.slice (some ⟨w.heap.size, 0, none⟩) len.toNat cap.toNat)
        (w.alloc (.cells ((Array.range (cap.toNat * ti.size)).map ((if cap.toNat * ti.size = 0 then #[] else zv.cells)[· % (if cap.toNat * ti.size = 0 then #[] else zv.cells).size]!)) e)) := by
      have c1 : ¬ (cap < 0) := by omega
      have c2 : ¬ (ti.bytes * cap > 281474976710656) := by rw [Int.mul_comm]; omega
      have c3 : ¬ (len < 0) := by omega
      have c4 : ¬ (len > cap) := by omega
      by_cases hc : cap.toNat * ti.size = 0
      · simp [Instr.makeSlice, run_underlying ht, asInt, asIntOf, typeInfo, sizeOf, zeroValue, hi, hz, w1, w2, c1, c2, c3, c4, hc, newRow]
      · simp [Instr.makeSlice, run_underlying ht, asInt, asIntOf, typeInfo, sizeOf, zeroValue, hi, hz, w1, w2, c1, c2, c3, c4, hc, newRow]
    obtain ⟨z1, z2⟩ := zeroCells_rep (w := w) (F := FX X ow S.toks) (ow := ow) (T := S.toks) zv
    have hlen : (List.replicate cap.toNat (zeroCells zv)).flatten.length = cap.toNat * ti.size := by simp [← z1, hzs]
    obtain ⟨m1, m2⟩ := hM.pushMem ((Array.range (cap.toNat * ti.size)).map ((if cap.toNat * ti.size = 0 then #[] else zv.cells)[· % (if cap.toNat * ti.size = 0 then #[] else zv.cells).size]!)) e (List.replicate cap.toNat (zeroCells zv)).flatten
      (by rw [hlen]; simp) (fun k x v a b => by
        rw [replicate_flatten_get _ (by rw [← z1, hzs]; exact hz0), ← z1, hzs] at a
        split at a
        · rename_i hk
          rw [if_neg (by omega)] at b
          simp [hk, hzs] at b
          have hkm : k % ti.size < zv.cells.size := by rw [hzs]; exact Nat.mod_lt _ (by omega)
          refine z2 _ x v a ?_
          rw [← b, Array.getElem?_eq_getElem hkm, getElem!_pos zv.cells _ hkm]
        · cases a)
    refine ⟨_, _, _, hrun, m1, m2, fun β d h _ => by rw [owNew_old (hM.bnd _ _ h), h], .inr (.rs _ _ _ _ w.heap.size _ (.inr ⟨owNew_new, e, by rw [shape_push_new]; simp⟩) (by omega))⟩
  · cases h

/-! ### Bytes and strings -/
def toByte : PV → Option UInt8
  | .int .u8 n => some (UInt8.ofNat n.toNat)
  | _ => none
def rowOf (r : RV) (S : Mem) : Option (List PV) :=
  match r with
  | .p (.sl l) | .own l _ => some l
  | .nsl _ => some []
  | .rs b off len _ => match S.mem[b]? with
    | some (.cells _ cs) => match sub cs off len with
      | some ys => mapO RV.toPV ys
      | none => none
    | _ => none
  | _ => none
theorem mapO_get {α β : Type} {f : α → Option β} : ∀ {l : List α} {ys : List β}, mapO f l = some ys → ys.length = l.length ∧ ∀ (k : Nat) y, ys[k]? = some y → ∃ r, l[k]? = some r ∧ f r = some y := by
  intro l
  induction l with
  | nil => intro ys h; simp [mapO] at h; subst h; simp
  | cons a l ih =>
    intro ys h
    simp only [mapO] at h
    split at h
    · rename_i y zs hy hzs
      cases h
      obtain ⟨i1, i2⟩ := ih hzs
      refine ⟨by simp [i1], fun k z hz => ?_⟩
      cases k with
      | zero => simp at hz; subst hz; exact ⟨a, rfl, hy⟩
      | succ k => exact i2 k z (by simpa using hz)
    · cases h

/-- A row whose elements are one cell each, read off. -/
theorem src_of_row (hM : MRel X ow S w) {r : RV} {v : Value} {xs : List PV} (hr : RRep (FX X ow S.toks) w ow S.toks r v) (h : rowOf r S = some xs) (hu : ∀ x ∈ xs, x.cells.length = 1) (hc : ∀ x ∈ xs, x.isCell = true) :
    ∃ new : Array Value, Src P w 1 v xs.length new ∧ ∀ (k : Nat) x u, (flat xs)[k]? = some x → new[k]? = some u → Rep (FX X ow S.toks) w x u := by
  have hfr : FRep (FX X ow S.toks) w ow S.toks r v := hr.f (by unfold rowOf at h; cases r <;> simp_all [RV.fc])
  unfold rowOf at h
  split at h
  · cases h; cases hfr with | p hx => exact src_of_rep (by simp) hu hx
  · cases h; cases hfr with | own l t v ht hx h' => exact src_of_rep (by simp) hu hx
  · cases h; cases hfr with | nsl _ a _ => exact src_of_rep (by simp) (by simp) (.sl [] a 0 1 (fun _ => undef) (by simp) (by simp) (by simp) (.inl rfl) (by simp [flat]))
  · rename_i b off len z'
    split at h
    · rename_i ty cs hcs
      split at h
      · rename_i ys hys
        cases hfr with | rs b off len _ β cap ho hcap =>
        obtain ⟨γ, hγ, vs, fr, h1, h2, ⟨h3, _⟩, h4⟩ := hM.cells hcs
        obtain rfl := hM.inj _ _ _ hγ (hM.alive hcs ho).1
        obtain ⟨e1, e2, e3⟩ := sub_spec hys
        obtain ⟨i1, i2⟩ := mapO_get h
        have hxl : xs.length = len := by omega
        have hfl : flat xs = xs := by
          have : ∀ l : List PV, (∀ x ∈ l, x.isCell = true) → flat l = l := by
            intro l
            induction l with
            | nil => intro _; rfl
            | cons a l ih =>
              intro hl
              rw [flat_cons, ih (fun x hx => hl x (by simp [hx]))]
              have := hl a (by simp)
              cases a <;> simp_all [PV.cells, PV.isCell]
          exact this xs hc
        refine ⟨((List.range len).map fun k => vs.getD (off + k) undef).toArray, ⟨fun w' => by simp [Builtin.lenOf, hxl], fun w' hw => ?_, by simp [hxl]⟩, fun k x u a b' => ?_⟩
        · simp only [Builtin.firstCells, Nat.mul_one, hxl]
          refine run_loadCells w' _ _ (fun k => vs.getD (off + k) undef) (fun j hj => ?_)
          rw [addr_add]
          simp [World.cell?, hw, h1, show off + j < vs.size by omega]
        · rw [hfl] at a
          have hk := (List.getElem?_eq_some_iff.1 a).1
          obtain ⟨r, hr1, hr2⟩ := i2 k x a
          rw [e3 k (by omega)] at hr1
          simp [show k < len by omega] at b'
          subst b'
          exact (h4 _ r _ hr1 (by simp [show off + k < vs.size by omega])).toPV hr2
      · cases h
    · cases h
  · cases h

theorem bytes_loop : ∀ (l : List Value) (bs : List UInt8) (acc : ByteArray), l.length = bs.length → (∀ (k : Nat) v b, l[k]? = some v → bs[k]? = some b → ∃ n : Int, v = .int .u8 n ∧ b = UInt8.ofNat n.toNat) →
    (forIn l acc (fun c (s : ByteArray) => (do
      let .int .u8 n := c | stuck "bytesToString: byte expected"
      pure (ForInStep.yield (s.push (UInt8.ofNat n.toNat))) : Sem (ForInStep ByteArray)))).run P w = .ok ⟨⟨acc.data.toList ++ bs⟩⟩ w
  | [], bs, acc, hl, _ => by
    have : bs = [] := by simpa using hl.symm
    subst this
    cases acc with | mk d => cases d with | mk l => simp
  | v :: l, [], acc, hl, _ => by simp at hl
  | v :: l, b :: bs, acc, hl, h => by
    obtain ⟨n, rfl, rfl⟩ := h 0 v b rfl rfl
    have ih := bytes_loop l bs (acc.push (UInt8.ofNat n.toNat)) (by simpa using hl) (fun k v b h1 h2 => h (k + 1) v b (by simpa using h1) (by simpa using h2))
    simp only [List.forIn_cons, Sem.run_bind, Sem.run_pure, Result.andThen_ok]
    rw [ih]
    congr 3
    cases acc with | mk d => cases d with | mk l => simp [ByteArray.push]

theorem ok_b2s (hM : MRel X ow S w) {src dst e : TypeId} (hs : P.underlying src = some (.slice e)) (he : P.underlying e = some (.int .u8)) (hd : P.underlying dst = some .string) {r : RV} {v : Value} {xs : List PV} {bs : List UInt8}
    (hr : RRep (FX X ow S.toks) w ow S.toks r v) (h : rowOf r S = some xs) (hb : mapO toByte xs = some bs) : OpOk X ow S w ((convert src dst v).run P w) (.p (.str bs)) S none := by
  obtain ⟨i1, i2⟩ := mapO_get hb
  have hx : ∀ x ∈ xs, ∃ n : Int, x = .int .u8 n := by
    intro x hx
    obtain ⟨k, hk⟩ := List.getElem?_of_mem hx
    have hkl := (List.getElem?_eq_some_iff.1 hk).1
    obtain ⟨y, hy1, hy2⟩ := i2 k _ (List.getElem?_eq_getElem (by omega))
    rw [hk] at hy1
    cases hy1
    unfold toByte at hy2
    split at hy2
    · exact ⟨_, rfl⟩
    · cases hy2
  have hone : ∀ x ∈ xs, x.cells.length = 1 := fun x h => by obtain ⟨n, rfl⟩ := hx x h; rfl
  have hcell : ∀ x ∈ xs, x.isCell = true := fun x h => by obtain ⟨n, rfl⟩ := hx x h; rfl
  obtain ⟨new, sr, hn⟩ := src_of_row (P := P) hM hr h hone hcell
  have hfr : FRep (FX X ow S.toks) w ow S.toks r v := hr.f (by unfold rowOf at h; cases r <;> simp_all [RV.fc])
  have hslice : ∃ a cap, v = .slice a xs.length cap := by
    have hl := sr.len w
    cases v <;> simp [Builtin.lenOf] at hl
    case slice a n c => exact ⟨a, c, by rw [hl]⟩
    case string s =>
      unfold rowOf at h
      split at h
      · cases hfr with | p hfr => cases hfr
      · cases hfr with | own l t v ht hx h' => cases hx
      · cases hfr
      · cases hfr
      · cases h
  obtain ⟨a, cap, rfl⟩ := hslice
  have hfl : flat xs = xs := by
    have : ∀ l : List PV, (∀ x ∈ l, x.isCell = true) → flat l = l := by
      intro l
      induction l with
      | nil => intro _; rfl
      | cons a l ih =>
        intro hl
        rw [flat_cons, ih (fun x hx => hl x (by simp [hx]))]
        have := hl a (by simp)
        cases a <;> simp_all [PV.cells, PV.isCell]
    exact this xs hcell
  refine OpOk.samef hM (v := .string ⟨⟨bs⟩⟩) ?_ (.p (.str bs))
  cases a with
  | none =>
    have h0 := sr.cells w rfl
    simp only [Builtin.firstCells, Sem.run_pure] at h0
    have : new = #[] := by cases h0; rfl
    have hz := sr.size
    subst this
    have hb0 : bs = [] := by
      have : xs.length = 0 := by simpa using hz.symm
      exact List.length_eq_zero_iff.1 (by omega)
    subst hb0
    simp [convert, run_underlying hs, run_underlying hd, run_underlying he, Conv.bytesToString]
    rfl
  | some a =>
    have h0 := sr.cells w rfl
    simp only [Builtin.firstCells, Nat.mul_one] at h0
    have hloop := bytes_loop (P := P) (w := w) new.toList bs .empty (by have := sr.size; simp; omega) (fun k v b h1 h2 => by
      obtain ⟨y, hy1, hy2⟩ := i2 k b h2
      have := hn k y v (by rw [hfl]; exact hy1) (by simpa using h1)
      unfold toByte at hy2
      split at hy2
      · rename_i n
        cases hy2
        cases this
        exact ⟨n, rfl, rfl⟩
      · cases hy2)
    simp only [convert, Sem.run_bind, run_underlying hs, run_underlying hd, Result.andThen_ok, run_underlying he, Conv.bytesToString, h0]
    rw [← Array.forIn_toList]
    erw [hloop]
    rfl
end
end Go.Ag
/- An abstract machine for Go functions: some more operations. -/
namespace Go.Ag
open Go
set_option linter.unusedVariables false
set_option linter.unusedSimpArgs false

inductive XOp where
  | mnx (mx : Bool)
  | toU
  | frU (u n : Nat)
  | usd
  | ust (ty : Nat)
  | xib | xcnt | xcmp | xid
  | bsl0
  | bslm (z ty : Nat)
  | s2b | sid
  deriving Inhabited

def mnA (mx : Bool) : RV → RV → Option RV
  | .p (.int k a), .p (.int _ b) => some (.p (.int k (if mx then (if b > a then b else a) else (if b < a then b else a))))
  | _, _ => none
def toUA (x : RV) (S : Mem) : Option RV :=
  match x with
  | .ptr b o => match S.mem[b]? with
    | some (.cells _ cs) => if o < cs.length then some (.ptr b o) else none
    | _ => none
  | _ => none
def frUA (u n : Nat) (x : RV) (S : Mem) : Option RV :=
  match x with
  | .ptr b 0 => match S.mem[b]? with
    | some (.cells ty cs) => if ty = 2 * u ∧ cs.length = n then some (.ptr b 0) else none
    | _ => none
  | _ => none
def toByteX : PV → Option UInt8
  | .int .u8 n => if 0 ≤ n ∧ n ≤ 255 then some (UInt8.ofNat n.toNat) else none
  | _ => none
def usdA : RV → Option RV
  | .own l t => if l.isEmpty then none else some (.od l t)
  | .nsl true => some .up
  | _ => none
def ustA (ty : Nat) (x n : RV) (S : Mem) : Option RV :=
  match x, n with
  | .up, .p (.int .i64 n) => if n = 0 then some (.p (.str [])) else none
  | .od l t, .p (.int .i64 n) => if n = l.length ∧ l.length ≤ lim ∧ (S.toks[t]?).map (·.1) = some l.length ∧ (S.toks[t]?).map (·.2) = some (1, ty) then (mapO toByteX l).map fun bs => .p (.str bs) else none
  | _, _ => none
def opX (o : XOp) (vals : List RV) (S : Mem) : Option (RV × Mem) :=
  match o, vals with
  | .mnx mx, [a, b] => (mnA mx a b).map fun r => (r, S)
  | .toU, [x] => (toUA x S).map fun r => (r, S)
  | .frU u n, [x] => (frUA u n x S).map fun r => (r, S)
  | .usd, [x] => (usdA x).map fun r => (r, S)
  | .ust ty, [x, n] => (ustA ty x n S).map fun r => (r, S)
  | .xib, [.p (.str s), .p (.int .u8 c)] => some (.p (.int .i64 (Go.Lib.indexByte s c.toNat.toUInt8)), S)
  | .xcnt, [.p (.str s), .p (.int .u8 c)] => some (.p (.int .i64 (Go.Lib.countByte s c.toNat.toUInt8 : Nat)), S)
  | .xcmp, [.p (.str a), .p (.str b)] => some (.p (.int .i64 (Go.Lib.compareBytes a b)), S)
  | .xid, [x] => if x.fc then some (x, S) else none
  | .bsl0, [] => some (.nsl false, S)
  | .s2b, [.p (.str s)] => some (.p (.sl (s.map byteV)), S)
  | .sid, [.p (.str s)] => some (.p (.str s), S)
  | .bslm z ty, vs => if vs.all (fun r => r.solid && r.cells.length == z) then some (.rs S.mem.length 0 vs.length z, { S with mem := S.mem ++ [.cells (2 * ty) (vs.flatMap RV.cells)] }) else none
  | _, _ => none

/-- A function that the model has no code for. -/
def extOp (P : Program) (f : FuncId) : Option XOp :=
  match P.funcs[f]? with
  | some fn => if fn.body.isNone && fn.origin == "" then
      if fn.name == "internal/bytealg.IndexByteString" then some .xib
      else if fn.name == "internal/bytealg.CountString" then some .xcnt
      else if fn.name == "internal/bytealg.abigen_runtime_cmpstring" then some .xcmp
      else if fn.name == "internal/abi.NoEscape" then some .xid
      else none
    else none
  | none => none
def trX (P : Program) (o : Oper) : Option (XOp × List Operand) :=
  match o.op with
  | .call { callee := .builtin .min, args := args, .. } => match args.toList with
    | [a, b] => some (.mnx false, [a, b])
    | _ => none
  | .call { callee := .builtin .max, args := args, .. } => match args.toList with
    | [a, b] => some (.mnx true, [a, b])
    | _ => none
  | .call { callee := .builtin .unsafeSliceData, args := args, .. } => match args.toList with
    | [a] => some (.usd, [a])
    | _ => none
  | .call { callee := .builtin .unsafeString, args := args, argTypes := tys } => match args.toList, tys.toList with
    | [a, n], [pt, _] => match P.underlying pt with
      | some (.pointer e) => if P.cellsOf e == 1 then some (.ust e, [a, n]) else none
      | _ => none
    | _, _ => none
  | .convert s d x => match P.underlying s, P.underlying d with
    | some (.pointer t), some .unsafePointer => match P.info? t with
      | some j => if j.size != 0 then some (.toU, [x]) else none
      | none => none
    | some .unsafePointer, some (.pointer u) => match P.info? u with
      | some j => if liesAt P P.depth u (j.size / P.cellsOf u) 0 u 1 then some (.frU u j.size, [x]) else none
      | none => none
    | some .string, some (.slice e) => match P.underlying e with
      | some (.int .u8) => some (.s2b, [x])
      | _ => none
    | some .string, some .string => some (.sid, [x])
    | _, _ => none
  | .buildSlice t 0 parts => match P.underlying t with
    | some (.slice e) => match P.info? e with
      | some _ => if parts.size == 0 then some (.bsl0, []) else none
      | none => none
    | _ => none
  | .buildSlice t len parts => match P.underlying t with
    | some (.slice e) => match P.info? e with
      | some ti => if ti.zero.isSome && ti.size != 0 && len != 0 && decide (len * ti.size ≤ 16777216) && parts.toList.length == len && parts.toList.map (·.1) == List.range len then
          some (.bslm ti.size e, parts.toList.map (·.2)) else none
      | none => none
    | _ => none
  | _ => none


/-! ### Values whose memory nobody writes any more -/
def chunk (z : Nat) : Nat → List PV → List PV
  | 0, _ => []
  | n + 1, l => (if z = 1 then l.headD .top else .agg (l.take z)) :: chunk z n (l.drop z)
def PV.isAgg : PV → Bool
  | .agg _ => true
  | _ => false
def RV.stillN : Nat → Mem → RV → Option PV
  | _, _, .p v => some v
  | _, _, .nsl _ => some (.sl [])
  | _, _, .own l _ => some (.sl l)
  | n + 1, S, .agg cs => (mapO (RV.stillN n S) cs).map .agg
  | n + 1, S, .tup cs => (mapO (RV.stillN n S) cs).map .tup
  | n + 1, S, .rs b off len z => match S.mem[b]? with
    | some (.cells _ cs) => match sub cs off (len * z) with
      | some ys => match mapO (RV.stillN n S) ys with
        | some xs => if z ≠ 0 ∧ (z = 1 → xs.all (fun x => !x.isAgg) = true) then some (.sl (chunk z len xs)) else none
        | none => none
      | none => none
    | _ => none
  | _, _, _ => none
def RV.still (S : Mem) (r : RV) : Option PV := r.stillN 6 S

theorem chunk_spec {z : Nat} (hz : z ≠ 0) : ∀ (n : Nat) (l : List PV), l.length = n * z → (z = 1 → ∀ x ∈ l, x.isAgg = false) → (chunk z n l).length = n ∧ flat (chunk z n l) = l ∧ ∀ x ∈ chunk z n l, x.cells.length = z
  | 0, l, hl, _ => by
    have : l = [] := by simpa using hl
    subst this
    simp [chunk, flat]
  | n + 1, l, hl, h1 => by
    have hmul : (n + 1) * z = n * z + z := Nat.succ_mul _ _
    obtain ⟨i1, i2, i3⟩ := chunk_spec hz n (l.drop z) (by simp; omega) (fun h x hx => h1 h x (List.mem_of_mem_drop hx))
    have hhead : ∀ x, (if z = 1 then l.headD .top else PV.agg (l.take z)) = x → x.cells = l.take z := by
      rintro x rfl
      by_cases hz1 : z = 1
      · subst hz1
        rw [if_pos rfl]
        cases l with
        | nil => simp at hl
        | cons a l =>
          have ha := h1 rfl a (by simp)
          simp only [List.headD_cons]
          cases a <;> simp [PV.isAgg, PV.cells] at ha ⊢
      · rw [if_neg hz1]; rfl
    refine ⟨by simp [chunk, i1], ?_, ?_⟩
    · simp only [chunk]
      show PV.cells _ ++ flat _ = l
      rw [i2, hhead _ rfl, List.take_append_drop]
    · intro x hx
      simp only [chunk, List.mem_cons] at hx
      rcases hx with rfl | hx
      · rw [hhead _ rfl, List.length_take]; omega
      · exact i3 x hx

section
variable {P : Program} {X : Cells} {ow : Ow} {S : Mem} {w : World}

theorem still_sound (hM : MRel X ow S w) {F' : Cells} (hF : ∀ β o, F' β o → FX X ow S.toks β o) (hF' : ∀ β b o, ow β = some (.mem b) → ¬ F' β o) :
    ∀ (n : Nat) {r : RV} {x : PV} {v : Value}, FRep (FX X ow S.toks) w ow S.toks r v → r.stillN n S = some x → Rep F' w x v := by
  have hst : St (FX X ow S.toks) w F' w := fun β o u a b => ⟨a, fun c => b (hF β o c)⟩
  have nslR : ∀ {a : Option Addr}, Rep F' w (.sl []) (.slice a 0 0) := fun {a} => .sl [] _ 0 1 (fun _ => undef) (by simp) (by simp) (by simp) (.inl rfl) (by simp [flat])
  intro n
  induction n with
  | zero =>
    intro r x v h hr
    cases h <;> simp only [RV.stillN, Option.some.injEq, reduceCtorEq] at hr
    · subst hr; rename_i h; exact h.mono hst
    · subst hr; exact nslR
    · subst hr; rename_i h _; exact h.mono hst
  | succ n ih =>
    intro r x v h hr
    cases h with
    | p h => simp only [RV.stillN, Option.some.injEq] at hr; subst hr; exact h.mono hst
    | nsl b a hb => simp only [RV.stillN, Option.some.injEq] at hr; subst hr; exact nslR
    | own l t v ht h h' => simp only [RV.stillN, Option.some.injEq] at hr; subst hr; exact h.mono hst
    | agg cs vs hl hh =>
      simp only [RV.stillN, Option.map_eq_some_iff] at hr
      obtain ⟨ys, hys, rfl⟩ := hr
      obtain ⟨i1, i2⟩ := mapO_get hys
      refine .agg ys vs (by omega) (fun k x v a b => ?_)
      obtain ⟨r, hr1, hr2⟩ := i2 k x a
      exact ih (hh k r v hr1 b) hr2
    | tup cs vs hl hh =>
      simp only [RV.stillN, Option.map_eq_some_iff] at hr
      obtain ⟨ys, hys, rfl⟩ := hr
      obtain ⟨i1, i2⟩ := mapO_get hys
      refine .tup ys vs (by omega) (fun k x v a b => ?_)
      obtain ⟨r, hr1, hr2⟩ := i2 k x a
      exact ih (hh k r v hr1 b) hr2
    | rs b off len z β cap ho hc =>
      simp only [RV.stillN] at hr
      split at hr
      · rename_i ty cs hcs
        split at hr
        · rename_i ys hys
          split at hr
          · rename_i xs hxs
            split at hr
            · rename_i hz
              obtain ⟨hz0, hz1⟩ := hz
              cases hr
              obtain ⟨γ, hγ, vs, fr, h1, h2, ⟨h3, _⟩, h4⟩ := hM.cells hcs
              obtain rfl := hM.inj _ _ _ hγ (hM.alive hcs ho).1
              obtain ⟨e1, e2, e3⟩ := sub_spec hys
              obtain ⟨i1, i2⟩ := mapO_get hxs
              obtain ⟨c1, c2, c3⟩ := chunk_spec hz0 len xs (by omega) (fun h x hx => by
                have := hz1 h
                simp only [List.all_eq_true, Bool.not_eq_true'] at this
                exact this x hx)
              have R : Rep F' w (.sl (chunk z len xs)) (.slice (some ⟨γ, off, none⟩) (chunk z len xs).length cap) := ?_
              · rw [c1] at R; exact R
              refine .sl _ _ cap z (fun k => vs.getD (off + k) undef) hz0 (by omega) c3 (.inr ⟨γ, off, rfl, fun k hk => ?_⟩) (fun k y hy => ?_)
              · rw [c2] at hk
                exact ⟨by simp [World.cell?, h1, show off + k < vs.size by omega], hF' γ b _ hγ⟩
              · rw [c2] at hy
                obtain ⟨r, hr1, hr2⟩ := i2 k y hy
                have hk : k < len * z := by have := (List.getElem?_eq_some_iff.1 hr1).1; omega
                rw [e3 k hk] at hr1
                refine ih (h4 (off + k) r _ hr1 ?_) hr2
                simp [show off + k < vs.size by omega]
            · cases hr
          · cases hr
        · cases hr
      · cases hr
    | _ => simp only [RV.stillN, reduceCtorEq] at hr

theorem find_ib (fn : Func) (h : fn.name = "internal/bytealg.IndexByteString") (h' : fn.origin = "") : Extern.find fn = some Extern.BytealgIndexByte.indexByte ∧ Extern.findNext fn = none := by
  constructor
  · unfold Extern.find; simp only [h]; rfl
  · unfold Extern.findNext; rw [h', h]; rfl

theorem find_cnt (fn : Func) (h : fn.name = "internal/bytealg.CountString") (h' : fn.origin = "") : Extern.find fn = some Extern.BytealgCount.count ∧ Extern.findNext fn = none := by
  constructor
  · unfold Extern.find; simp only [h]; rfl
  · unfold Extern.findNext; rw [h', h]; rfl
theorem find_cmp (fn : Func) (h : fn.name = "internal/bytealg.abigen_runtime_cmpstring") (h' : fn.origin = "") : Extern.find fn = some Extern.BytealgCompare.compare ∧ Extern.findNext fn = none := by
  constructor
  · unfold Extern.find; simp only [h]; rfl
  · unfold Extern.findNext; rw [h', h]; rfl
theorem find_id (fn : Func) (h : fn.name = "internal/abi.NoEscape") (h' : fn.origin = "") : Extern.find fn = some Extern.AbiNoEscape.same ∧ Extern.findNext fn = none := by
  constructor
  · unfold Extern.find; simp only [h]; rfl
  · unfold Extern.findNext; rw [h', h]; rfl


/-! ### Each does as its function says -/
theorem ok_mnx (hM : MRel X ow S w) {mx : Bool} {a b r : RV} {u v : Value} {ts ty} (h1 : RRep (FX X ow S.toks) w ow S.toks a u) (h2 : RRep (FX X ow S.toks) w ow S.toks b v) (h : mnA mx a b = some r) :
    OpOk X ow S w ((if mx then Builtin.max_ ts ty #[u, v] else Builtin.min_ ts ty #[u, v]).run P w) r S none := by
  unfold mnA at h
  split at h
  · cases h
    rcases h1 with ⟨_, _, _, h1, _⟩ | h1
    · cases h1
    · rcases h2 with ⟨_, _, _, h2, _⟩ | h2
      · cases h2
      · cases h1 with | p h1 => cases h1 with | int => cases h2 with | p h2 => cases h2 with | int =>
        cases mx
        · exact OpOk.samef hM (v := .int _ (if _ < _ then _ else _)) (by simp [Builtin.min_, Builtin.min2]) (.p (.int _ _))
        · exact OpOk.samef hM (v := .int _ (if _ > _ then _ else _)) (by simp [Builtin.max_, Builtin.max2]) (.p (.int _ _))
  · cases h

theorem shape_of_row {F ow T β ty cs} (h : RowRepT F w ow T β ty cs) : ∃ n, w.shape? β = some (ty / 2, n) ∧ cs.length ≤ n ∧ (ty % 2 = 0 → cs.length = n) := by
  obtain ⟨vs, fr, h1, h2, h3, h4⟩ := h
  refine ⟨vs.size, ?_, h3⟩
  unfold World.shape?
  rw [h1]

theorem ok_toU (hM : MRel X ow S w) {s d t : TypeId} {j : TypeInfo} (hs : P.underlying s = some (.pointer t)) (hd : P.underlying d = some .unsafePointer) (ht : P.info? t = some j) (hj : j.size ≠ 0)
    {x r : RV} {v : Value} (hx : RRep (FX X ow S.toks) w ow S.toks x v) (h : toUA x S = some r) : OpOk X ow S w ((convert s d v).run P w) r S none := by
  unfold toUA at h
  split at h
  · rename_i b o
    split at h
    · rename_i ty cs hcs
      split at h
      · rename_i ho
        cases h
        have hf := hx.f rfl
        cases hf with | ptr _ _ β hβ =>
        obtain ⟨γ, hγ, hr⟩ := hM.cells hcs
        obtain rfl := hM.inj _ _ _ hγ (hM.alive hcs hβ)
        obtain ⟨n, hn, hn1, _⟩ := shape_of_row hr
        exact OpOk.samef hM (Lib.run_to_unsafe (P := P) w ⟨γ, o, none⟩ hs hd ht hj hn (show o < n by omega)) (.ptr _ _ _ hβ)
      · cases h
    · cases h
  · cases h

theorem ok_frU (hM : MRel X ow S w) {s d u : TypeId} {j : TypeInfo} (hs : P.underlying s = some .unsafePointer) (hd : P.underlying d = some (.pointer u)) (hu : P.info? u = some j)
    (hl : liesAt P P.depth u (j.size / P.cellsOf u) 0 u 1 = true) {x r : RV} {v : Value} (hx : RRep (FX X ow S.toks) w ow S.toks x v) (h : frUA u j.size x S = some r) :
    OpOk X ow S w ((convert s d v).run P w) r S none := by
  unfold frUA at h
  split at h
  · rename_i b
    split at h
    · rename_i ty cs hcs
      split at h
      · rename_i ho
        obtain ⟨rfl, ho⟩ := ho
        cases h
        have hf := hx.f rfl
        cases hf with | ptr _ _ β hβ =>
        obtain ⟨γ, hγ, hr⟩ := hM.cells hcs
        obtain rfl := hM.inj _ _ _ hγ (hM.alive hcs hβ)
        obtain ⟨n, hsh, _, hn2⟩ := shape_of_row hr
        rw [Nat.mul_div_cancel_left u (by decide), ← hn2 (Nat.mul_mod_right 2 u), ho] at hsh
        exact OpOk.samef hM (Lib.run_from_unsafe (P := P) w ⟨γ, 0, none⟩ hs hd hu hsh hl) (.ptr _ _ _ hβ)
      · cases h
    · cases h
  · cases h

theorem ok_usd (hM : MRel X ow S w) {ts ty} {x r : RV} {v : Value} (hx : RRep (FX X ow S.toks) w ow S.toks x v) (h : usdA x = some r) :
    OpOk X ow S w ((Builtin.unsafeSliceData_ ts ty #[v]).run P w) r S none := by
  unfold usdA at h
  split at h
  · rename_i l t
    split at h
    · cases h
    · rename_i hl
      cases h
      have hf := hx.f rfl
      cases hf with | own _ _ v ht hr h' =>
      have hr0 := hr
      cases hr with | sl _ a cap esz u h1 h2 h3 h4 h5 =>
      have hne : l ≠ [] := by simpa using hl
      have hlen : l.length ≠ 0 := by simpa using hne
      rcases h4 with h4 | ⟨β, o, rfl, _⟩
      · exact absurd h4 hne
      · exact OpOk.samef hM (Lib.run_unsafeSliceData_row w ts ty _ _ _ (by omega)) (.od _ _ _ cap (.own _ _ _ ht hr0 h') (by omega))
  · cases h
    have hf := hx.f rfl
    cases hf with | nsl _ a ha =>
    obtain rfl := ha rfl
    exact OpOk.samef hM (Lib.run_unsafeSliceData_nil w ts ty 0 0) (.up _)
  · cases h

theorem freeze_misc (w : World) (β n : Nat) : (w.freeze ⟨β, 0, none⟩ n).os = w.os ∧ (w.freeze ⟨β, 0, none⟩ n).tape = w.tape ∧ (w.freeze ⟨β, 0, none⟩ n).output = w.output ∧ (w.freeze ⟨β, 0, none⟩ n).heap.size = w.heap.size ∧
    (∀ γ, γ ≠ β → (w.freeze ⟨β, 0, none⟩ n).heap[γ]? = w.heap[γ]?) ∧
    ∀ vs el fr m, w.heap[β]? = some (.cells vs el fr) → fr.2 ≤ m → n ≤ m → ∃ fr', (w.freeze ⟨β, 0, none⟩ n).heap[β]? = some (.cells vs el fr') ∧ fr'.2 ≤ m := by
  unfold World.freeze
  split
  · exact ⟨rfl, rfl, rfl, rfl, fun _ _ => rfl, fun vs el fr m h h1 _ => ⟨fr, h, h1⟩⟩
  · refine ⟨rfl, rfl, rfl, by simp, fun γ hγ => ?_, fun vs el fr m h h1 h2 => ?_⟩
    · simp only [Array.getElem?_modify]
      rw [if_neg (fun e => hγ e.symm)]
    · obtain ⟨lo, hi⟩ := fr
      refine ⟨if lo == hi then (0, 0 + n) else (min lo 0, max hi (0 + n)), by simp only [Array.getElem?_modify, if_true, h, Option.map_some], ?_⟩
      simp only at h1
      split <;> simp <;> omega

/-- Cells of a row to which may be appended are frozen, as far as it is used. -/
theorem MRel.freezeTok (hM : MRel X ow S w) {t e n : Nat} {z : Nat × Nat} {β : Nat} (hz : z.1 ≠ 0) (hS : S.toks[t]? = some (e, z)) (ho : ow β = some (.tok t)) (hn : n ≤ e * z.1) :
    MRel X ow S (w.freeze ⟨β, 0, none⟩ n) ∧ Tr X ow S.toks w ow S.toks (w.freeze ⟨β, 0, none⟩ n) := by
  obtain ⟨e1, e2, e3, e4, e5, e6⟩ := freeze_misc w β n
  obtain ⟨γ, vs, fr, hγ, hh, hle, hfz⟩ := hM.tok t e z hS hz
  obtain rfl := hM.inj _ _ _ hγ ho
  obtain ⟨fr', hh', hfz'⟩ := e6 vs z.2 fr (e * z.1) hh hfz hn
  have hcell : ∀ a : Addr, (w.freeze ⟨γ, 0, none⟩ n).cell? a = w.cell? a := by
    intro a
    unfold World.cell?
    by_cases ha : a.block = γ
    · rw [ha, hh, hh']
    · rw [e5 _ ha]
  have tr : Tr X ow S.toks w ow S.toks (w.freeze ⟨γ, 0, none⟩ n) :=
    { st := fun β o u h k => ⟨by rw [hcell]; exact h, k⟩
      mem := fun β _ h => .inr ⟨h, by unfold World.shape?; rw [e5 β (by rintro rfl; rw [ho] at h; cases h)]⟩
      tl := Nat.le_refl _
      tok := fun t e z _ h => ⟨e, h, Nat.le_refl _, fun _ => rfl, fun _ β sh a b => ⟨a, by
        unfold World.shape? at *
        by_cases hb : β = γ
        · subst hb; rw [hh']; rw [hh] at b; exact b
        · rw [e5 _ hb]; exact b⟩⟩
      fr := fun β _ hn => ⟨hn, e5 β (by rintro rfl; rw [ho] at hn; cases hn)⟩
      size := by rw [e4]; exact Nat.le_refl _
      os := e1
      tape := e2
      output := e3 }
  refine ⟨hM.next tr hM.inj (fun β o h => by rw [e4]; exact hM.bnd _ _ h) hM.memlt hM.toklt hM.locin (fun _ h => h) (Nat.le_refl _) (fun b k h => .inl ⟨h, fun β a => e5 β (by rintro rfl; rw [ho] at a; cases a)⟩)
    (fun d cs h => .inl ⟨h, fun β a => ⟨a, e5 β (by rintro rfl; rw [ho] at a; cases a)⟩⟩) (fun t' e' z' h => ?_), tr⟩
  by_cases htt : t' = t
  · subst htt
    rw [hS] at h
    cases h
    exact .inr ⟨γ, vs, fr', ho, hh', hle, hfz'⟩
  · exact .inl ⟨h, fun β a => ⟨a, e5 β (by rintro rfl; rw [ho] at a; cases a; exact htt rfl)⟩⟩

theorem bytes_get {l : List PV} {bs : List UInt8} (h : mapO toByteX l = some bs) : bs.length = l.length ∧ ∀ (j : Nat) x, bs[j]? = some x → l[j]? = some (.int .u8 x.toNat) := by
  obtain ⟨i1, i2⟩ := mapO_get h
  refine ⟨i1, fun j x hx => ?_⟩
  obtain ⟨r, h1, h2⟩ := i2 j x hx
  cases r <;> simp only [toByteX, reduceCtorEq] at h2
  rename_i k n
  cases k <;> simp only [toByteX, reduceCtorEq] at h2
  split at h2
  · rename_i hn
    cases h2
    rw [h1]
    have : ((UInt8.ofNat n.toNat).toNat : Int) = n := by
      simp
      omega
    rw [this]
  · cases h2
theorem bytes_flat {l : List PV} {bs : List UInt8} (h : mapO toByteX l = some bs) : flat l = l := by
  obtain ⟨h1, h2⟩ := bytes_get h
  have : ∀ l : List PV, (∀ x ∈ l, ∃ n, x = .int .u8 n) → flat l = l := by
    intro l
    induction l with
    | nil => intro _; rfl
    | cons x l ih =>
      intro hx
      obtain ⟨n, rfl⟩ := hx x (by simp)
      show PV.cells (.int .u8 n) ++ flat l = _
      rw [ih (fun y hy => hx y (by simp [hy]))]
      rfl
  refine this l (fun x hx => ?_)
  obtain ⟨k, hk⟩ := List.getElem?_of_mem hx
  have hkl := (List.getElem?_eq_some_iff.1 hk).1
  have := h2 k _ (List.getElem?_eq_getElem (by omega))
  rw [hk] at this
  exact ⟨_, Option.some.inj this⟩

theorem ok_ust (hM : MRel X ow S w) {pt it ty e : TypeId} (hp : P.underlying pt = some (.pointer e)) (hc : P.cellsOf e = 1) {x m r : RV} {v u : Value}
    (hx : RRep (FX X ow S.toks) w ow S.toks x v) (hm : RRep (FX X ow S.toks) w ow S.toks m u) (h : ustA e x m S = some r) : OpOk X ow S w ((Builtin.unsafeString_ #[pt, it] ty #[v, u]).run P w) r S none := by
  unfold ustA at h
  split at h
  · split at h
    · rename_i hn
      subst hn
      cases h
      have h1 := hx.f rfl
      have h2 := hm.f rfl
      cases h1 with | up p =>
      cases h2 with | p h2 => cases h2 with | int =>
      exact OpOk.samef hM (Lib.run_unsafeString_none w pt it ty p) (.p (.str []))
    · cases h
  · rename_i l t n
    split at h
    · rename_i hcond
      obtain ⟨rfl, hlim, ht1, ht2⟩ := hcond
      simp only [Option.map_eq_some_iff] at h
      obtain ⟨bs, hbs, rfl⟩ := h
      have h1 := hx.f rfl
      have h2 := hm.f rfl
      cases h2 with | p h2 => cases h2 with | int =>
      cases h1 with | od _ _ a cap ho hcap =>
      cases hq : S.toks[t]? with
      | none => rw [hq] at ht1; cases ht1
      | some z =>
        obtain ⟨e0, z⟩ := z
        rw [hq] at ht1 ht2
        simp only [Option.map_some, Option.some.injEq] at ht1 ht2
        subst ht1
        subst ht2
        generalize hv : Value.slice (some a) l.length cap = vv at ho
        cases ho with | own _ _ _ ht hr h' =>
        obtain ⟨q1, q2, q3⟩ := h' _ _ hq
        obtain ⟨β, cap', hv', hoβ, hsh⟩ := q3 rfl
        subst hv'
        cases hv
        obtain ⟨b1, b2⟩ := bytes_get hbs
        have hfl := bytes_flat hbs
        unfold lim at hlim
        generalize hv : Value.slice (some (⟨β, 0, none⟩ : Addr)) l.length cap = vv at hr
        cases hr with | sl _ a' cap2 esz uu c1 c2 c3 c4 c5 =>
        cases hv
        have hlc : l.length ≤ cap * 1 := by omega
        obtain ⟨m1, m2⟩ := hM.freezeTok (n := bs.length) (by simp) hq hoβ (by simp; omega)
        have hcells : ∀ (j : Nat) x, bs[j]? = some x → w.cell? ((⟨β, 0, none⟩ : Addr).add j) = some (.int .u8 x.toNat) := by
          intro j x hj
          have hj2 := b2 j x hj
          have hjl := (List.getElem?_eq_some_iff.1 hj2).1
          rcases c4 with rfl | ⟨β2, o2, heq, hcc⟩
          · simp at hjl
          · cases heq
            have hez : esz = 1 := by
              have h0 := c3 (.int .u8 x.toNat) (List.mem_of_getElem? hj2)
              simpa [PV.cells] using h0.symm
            subst hez
            have hcell := (hcc j (by first | omega | (rw [hfl]; omega))).1
            rw [addr_add]
            have hrep := c5 j _ (by rw [hfl]; exact hj2)
            rw [hcell]
            generalize uu j = q at hrep
            cases hrep
            rfl
        by_cases h0 : bs = []
        · subst h0
          have hl0 : l.length = 0 := by simpa using b1.symm
          rw [hl0]
          exact ⟨_, ow, w, Lib.run_unsafeString_none w pt it ty (some ⟨β, 0, none⟩), hM, Tr.refl _ _ _ _, fun _ _ h _ => h, .inr (.p (.str []))⟩
        · have hrun := Lib.run_unsafeString_row (P := P) w pt it ty e hp hc β (cap * 1) hsh bs h0 (by omega) (by omega) hcells
          rw [b1] at hrun
          rw [b1] at m1 m2
          exact ⟨_, ow, _, hrun, m1, m2, fun _ _ h _ => h, .inr (.p (.str bs))⟩
    · cases h
  · cases h

/-! ### A slice literal in memory that is written -/
theorem flatMap_get {z : Nat} (hz : z ≠ 0) : ∀ (l : List RV), (∀ r ∈ l, r.cells.length = z) → (l.flatMap RV.cells).length = l.length * z ∧ ∀ k, (l.flatMap RV.cells)[k]? = (l[k / z]?).bind fun r => r.cells[k % z]?
  | [], _ => by simp
  | r :: l, h => by
    obtain ⟨i1, i2⟩ := flatMap_get hz l (fun x hx => h x (by simp [hx]))
    have h0 := h r (by simp)
    refine ⟨by rw [List.flatMap_cons, List.length_append, i1, h0, List.length_cons, Nat.succ_mul]; omega, fun k => ?_⟩
    rw [List.flatMap_cons]
    by_cases hk : k < z
    · rw [List.getElem?_append_left (by omega), Nat.div_eq_of_lt hk, Nat.mod_eq_of_lt hk]
      rfl
    · rw [List.getElem?_append_right (by omega), i2, h0]
      have e1 : k / z = (k - z) / z + 1 := by
        have := Nat.div_eq_sub_div (show 0 < z by omega) (show z ≤ k by omega)
        exact this
      have e2 : k % z = (k - z) % z := Nat.mod_eq_sub_mod (by omega)
      rw [e1, e2, List.getElem?_cons_succ]

theorem ok_bslm (hM : MRel X ow S w) {t e : TypeId} (hu : P.underlying t = some (.slice e)) {ti : TypeInfo} (hi : P.info? e = some ti) {zv : Value} (hz : ti.zero = some zv) (hz0 : ti.size ≠ 0)
    {len : Nat} (hlen0 : len ≠ 0) (hsmall : len * ti.size ≤ 16777216) {rs : List RV} {vs : List Value} (hl : rs.length = len) (hvl : vs.length = len)
    (hr : ∀ (k : Nat) r v, rs[k]? = some r → vs[k]? = some v → FRep (FX X ow S.toks) w ow S.toks r v) (hall : ∀ r ∈ rs, r.solid = true ∧ r.cells.length = ti.size) :
    OpOk X ow S w ((Instr.buildSlice t len ((vs.zipIdx 0).map fun x => (x.2, x.1)).toArray).run P w) (.rs S.mem.length 0 rs.length ti.size) { S with mem := S.mem ++ [.cells (2 * e) (rs.flatMap RV.cells)] } none := by
  have hvc : ∀ (k : Nat) v, vs[k]? = some v → ∃ r, rs[k]? = some r ∧ v.cells.size = r.cells.length ∧ r.cells.length = ti.size ∧ ∀ (j : Nat) x u, r.cells[j]? = some x → v.cells[j]? = some u → FRep (FX X ow S.toks) w ow S.toks x u := by
    intro k v hk
    have hkl := (List.getElem?_eq_some_iff.1 hk).1
    have hr' : rs[k]? = some (rs[k]'(by omega)) := List.getElem?_eq_getElem _
    obtain ⟨h1, h2⟩ := hall _ (List.getElem_mem (l := rs) (n := k) (by omega))
    obtain ⟨c1, c2⟩ := cells_rep (hr k _ v hr' hk) h1
    exact ⟨_, hr', c1, h2, c2⟩
  have hcells : ∀ v ∈ vs, v.cells.size = ti.size := by
    intro v hv
    obtain ⟨k, hk⟩ := List.getElem?_of_mem hv
    obtain ⟨r, _, h1, h2, _⟩ := hvc k v hk
    omega
  obtain ⟨res, q1, q2, q3⟩ := Great.fill_dense (s := ti.size) (by omega) vs 0 ((Array.range (len * ti.size)).map (zv.cells[· % zv.cells.size]!)) hcells (by simp [hvl])
  have hrun := run_buildSlice (P := P) w t e len ((vs.zipIdx 0).map fun x => (x.2, x.1)).toArray res ti zv hu hi hz (by omega) (by rw [Nat.mul_eq_zero]; omega) (by simpa using q1)
  obtain ⟨f1, f2⟩ := flatMap_get hz0 rs (fun r h => (hall r h).2)
  have hsz : res.size = len * ti.size := by rw [q2]; simp
  obtain ⟨m1, m2⟩ := hM.pushMem res e (rs.flatMap RV.cells) (by rw [f1, hl, hsz]) (fun k x v h1 h2 => by
    have hk := (List.getElem?_eq_some_iff.1 h1).1
    rw [f1, hl] at hk
    rw [f2] at h1
    rw [q3, if_pos ⟨by omega, by rw [hvl, Nat.zero_add]; exact hk⟩] at h2
    simp only [Nat.sub_zero, Option.bind_eq_some_iff] at h1 h2
    obtain ⟨y, hy1, hy2⟩ := h1
    obtain ⟨u, hu1, hu2⟩ := h2
    obtain ⟨r, g1, g2, g3, g4⟩ := hvc _ u hu1
    rw [hy1] at g1
    cases g1
    exact g4 _ _ _ hy2 hu2)
  refine ⟨_, _, _, hrun, m1, m2, fun β d h _ => by rw [owNew_old (hM.bnd _ _ h), h], .inr ?_⟩
  rw [hl]
  exact .rs _ _ _ _ w.heap.size len (.inr ⟨owNew_new, e, by rw [shape_push_new, hsz, Nat.zero_add]⟩) (Nat.le_refl _)

theorem ok_s2b (hM : MRel X ow S w) {src d e : TypeId} (hs : P.underlying src = some .string) (hd : P.underlying d = some (.slice e)) (he : P.underlying e = some (.int .u8)) (s : List UInt8) :
    OpOk X ow S w ((convert src d (.string ⟨⟨s⟩⟩)).run P w) (.p (.sl (s.map byteV))) S none := by
  have hrun := run_bytes_of_string (P := P) w src d e ⟨⟨s⟩⟩ hs hd he
  have hM1 : MRel X ow S w.drew := hM.heap rfl rfl rfl rfl
  have hsz : (ByteArray.mk ⟨s⟩).size = s.length := rfl
  rw [hsz] at hrun
  have hcap := grownCap_ge w s.length 0 e
  generalize grownCap w s.length 0 e = C at *
  obtain ⟨m1, m2⟩ := hM1.pushPlain (.cells (bytesRow ⟨⟨s⟩⟩ C) e ((bytesRow ⟨⟨s⟩⟩ C).size, (bytesRow ⟨⟨s⟩⟩ C).size + 1))
  have tr := (Tr.heap (X := X) (ow := ow) (T := S.toks) (w := w) (w' := w.drew) rfl rfl rfl rfl).trans m2
  refine ⟨_, ow, _, hrun, m1, tr, fun _ _ h _ => h, .inr (.p ?_)⟩
  have hl : (s.map byteV).length = s.length := List.length_map _
  have R := rep_block (F := FX X ow S.toks) (w := w.drew.alloc (.cells (bytesRow ⟨⟨s⟩⟩ C) e ((bytesRow ⟨⟨s⟩⟩ C).size, (bytesRow ⟨⟨s⟩⟩ C).size + 1))) (xs := s.map byteV) (z := 1) (by simp) (uni_bytes s) (heap_push_new w.drew _) (cap := C) (by omega)
    (by simp [bytesRow])
    (fun o ho hF => by
      have : ow w.drew.heap.size = none := by
        cases hq : ow w.drew.heap.size with
        | none => rfl
        | some q => exact absurd (hM1.bnd _ _ hq) (by omega)
      rcases hF with hF | hF
      · exact absurd (hM1.xb _ _ hF).1 (by omega)
      · unfold Mut at hF; rw [this] at hF; exact hF)
    (fun k x v h1 h2 => by
      rw [flat_bytes] at h1
      simp only [List.getElem?_map, Option.map_eq_some_iff] at h1
      obtain ⟨b, hb, rfl⟩ := h1
      have hk := (List.getElem?_eq_some_iff.1 hb).1
      unfold bytesRow at h2
      rw [Array.getElem?_append_left (by simp; exact hk)] at h2
      simp only [Array.getElem?_map, List.getElem?_toArray, Option.map_eq_some_iff] at h2
      obtain ⟨b', hb', rfl⟩ := h2
      have : s[k]? = some b' := by simpa using hb'
      rw [hb] at this
      cases this
      exact .int _ _)
  rw [hl] at R
  exact R
theorem ok_sid (hM : MRel X ow S w) {src d : TypeId} (hs : P.underlying src = some .string) (hd : P.underlying d = some .string) (s : List UInt8) :
    OpOk X ow S w ((convert src d (.string ⟨⟨s⟩⟩)).run P w) (.p (.str s)) S none :=
  OpOk.samef hM (by simp [convert, run_underlying hs, run_underlying hd]) (.p (.str s))
end
end Go.Ag
/- An abstract machine for Go functions: rows that grow where they lie, clear, copy, walks over strings. -/
namespace Go.Ag
open Go
set_option linter.unusedVariables false
set_option linter.unusedSimpArgs false
section
variable {P : Program} {X : Cells} {ow : Ow} {S : Mem} {w : World}

/-! ### Cells that are read off -/
def srcC (z : Nat) (r : RV) (S : Mem) : Option (Nat × List RV) :=
  match r with
  | .p (.sl xs) => if uni z xs then some (xs.length, (flat xs).map .p) else none
  | .own xs _ => if uni z xs then some (xs.length, (flat xs).map .p) else none
  | .nsl _ => some (0, [])
  | .rs b off len z' => if z' = z then match S.mem[b]? with
    | some (.cells _ cs) => match sub cs off (len * z) with
      | some ys => if ys.all RV.isCell then some (len, ys) else none
      | none => none
    | _ => none else none
  | .p (.str s) => if z = 1 then some (s.length, s.map fun b => .p (byteV b)) else none
  | _ => none

/-- A source of cells: its first elements, as many as one likes. -/
structure SrcC (P : Program) (X : Cells) (ow : Ow) (S : Mem) (w : World) (z : Nat) (x : Value) (n : Nat) (cs : List RV) (u : Nat → Value) : Prop where
  len : ∀ w', (Builtin.lenOf x).run P w' = .ok n w'
  cells : ∀ w' : World, w'.heap = w.heap → ∀ m, m ≤ n → (Builtin.firstCells z m x).run P w' = .ok ((List.range (m * z)).map u).toArray w'
  size : cs.length = n * z
  rep : ∀ (k : Nat) y, cs[k]? = some y → FRep (FX X ow S.toks) w ow S.toks y (u k)
  one : ∀ k, k < n * z → (u k).oneCell' = true

theorem src_pure {F : Cells} {xs : List PV} {z : Nat} (hz0 : z ≠ 0) (hz : ∀ x ∈ xs, x.cells.length = z) {v : Value} (h : Rep F w (.sl xs) v) :
    ∃ u : Nat → Value, (∀ w', (Builtin.lenOf v).run P w' = .ok xs.length w') ∧ (∀ w' : World, w'.heap = w.heap → ∀ m, m ≤ xs.length → (Builtin.firstCells z m v).run P w' = .ok ((List.range (m * z)).map u).toArray w') ∧
      ∀ (k : Nat) x, (flat xs)[k]? = some x → Rep F w x (u k) := by
  cases h with | sl l a cap esz u h1 h2 h3 h4 h5 =>
  refine ⟨u, fun w' => rfl, fun w' hw m hm => ?_, h5⟩
  by_cases he : xs = []
  · subst he
    obtain rfl : m = 0 := by simpa using hm
    cases a with
    | none => simp [Builtin.firstCells]
    | some a => simp [Builtin.firstCells, loadCells, loadCellsFrom]
  · rcases h4 with rfl | ⟨β, o, rfl, hc⟩
    · exact absurd rfl he
    · have hfl := flat_length hz
      have hmz : m * z ≤ xs.length * z := Nat.mul_le_mul_right _ hm
      simp only [Builtin.firstCells]
      refine run_loadCells w' _ _ u (fun j hj => ?_)
      rw [addr_add]
      have := (hc j (by omega)).1
      unfold World.cell? at *
      rw [hw]; exact this

theorem src_cells (hM : MRel X ow S w) {z : Nat} (hz0 : z ≠ 0) {r : RV} {v : Value} {n : Nat} {cs : List RV} (hr : RRep (FX X ow S.toks) w ow S.toks r v) (h : srcC z r S = some (n, cs)) :
    ∃ u, SrcC P X ow S w z v n cs u := by
  have hfr : FRep (FX X ow S.toks) w ow S.toks r v := hr.f (by unfold srcC at h; cases r <;> simp_all [RV.fc])
  have pur : ∀ xs : List PV, uni z xs = true → Rep (FX X ow S.toks) w (.sl xs) v → ∃ u, SrcC P X ow S w z v xs.length ((flat xs).map .p) u := by
    intro xs hu hx
    obtain ⟨u, h1, h2, h3⟩ := src_pure (P := P) hz0 (uni_spec hu) hx
    have hfl := flat_length (uni_spec hu)
    refine ⟨u, h1, h2, by rw [List.length_map, hfl], fun k y hy => ?_, fun k hk => ?_⟩
    · simp only [List.getElem?_map, Option.map_eq_some_iff] at hy
      obtain ⟨x, hx, rfl⟩ := hy
      exact .p (h3 k x hx)
    · have hkl : k < (flat xs).length := by omega
      exact pcell_one (h3 k _ (List.getElem?_eq_getElem hkl)) (uni_cell hu _ (List.getElem_mem hkl))
  unfold srcC at h
  split at h
  · split at h
    · rename_i hu; cases h; cases hfr with | p hx => exact pur _ hu hx
    · cases h
  · split at h
    · rename_i hu; cases h; cases hfr with | own l t v ht hx h' => exact pur _ hu hx
    · cases h
  · cases h
    cases hfr with | nsl _ a _ =>
    refine ⟨fun _ => undef, fun w' => rfl, fun w' _ m hm => ?_, by simp, by simp, by simp⟩
    obtain rfl : m = 0 := by omega
    cases a <;> simp [Builtin.firstCells, loadCells, loadCellsFrom]
  · rename_i b off len z'
    split at h
    · rename_i hzz
      subst hzz
      split at h
      · rename_i ty cs0 hcs
        split at h
        · rename_i ys hys
          split at h
          · rename_i hall
            cases h
            cases hfr with | rs b off len _ β cap ho hcap =>
            obtain ⟨γ, hγ, vs, fr, h1, h2, ⟨h3, _⟩, h4⟩ := hM.cells hcs
            obtain rfl := hM.inj _ _ _ hγ (hM.alive hcs ho).1
            obtain ⟨e1, e2, e3⟩ := sub_spec hys
            have hrep : ∀ (k : Nat) y, cs[k]? = some y → FRep (FX X ow S.toks) w ow S.toks y (vs.getD (off + k) undef) := by
              intro k y hy
              have hk : k < n * z' := by rw [← e1]; exact (List.getElem?_eq_some_iff.1 hy).1
              rw [e3 k hk] at hy
              exact h4 (off + k) y _ hy (by simp [show off + k < vs.size by omega])
            refine ⟨fun k => vs.getD (off + k) undef, fun w' => rfl, fun w' hw m hm => ?_, e1, hrep, fun k hk => ?_⟩
            · have hmz : m * z' ≤ n * z' := Nat.mul_le_mul_right _ hm
              simp only [Builtin.firstCells]
              refine run_loadCells w' _ _ (fun k => vs.getD (off + k) undef) (fun j hj => ?_)
              rw [addr_add]
              simp [World.cell?, hw, h1, show off + j < vs.size by omega]
            · have hkl : k < cs.length := by omega
              simp only [List.all_eq_true] at hall
              exact cell_one (hrep k _ (List.getElem?_eq_getElem hkl)) (hall _ (List.getElem_mem hkl))
          · cases h
        · cases h
      · cases h
    · cases h
  · rename_i s
    split at h
    · rename_i hz1
      subst hz1
      cases h
      cases hfr with | p hx => cases hx with | str =>
      have hsz : (ByteArray.mk ⟨s⟩).size = s.length := rfl
      refine ⟨fun k => .int .u8 ((s.getD k 0).toNat), fun w' => by simp [Builtin.lenOf, hsz], fun w' _ m hm => ?_, by simp, fun k y hy => ?_, fun k _ => rfl⟩
      · simp only [Builtin.firstCells, extract_bytes, cutL, Nat.sub_zero, List.drop_zero, Sem.run_pure, Nat.mul_one]
        congr 1
        apply Array.ext'
        simp only [Array.toList_map]
        apply List.ext_getElem?
        intro k
        simp only [List.getElem?_map, List.getElem?_take, List.getElem?_range]
        by_cases hk : k < m
        · rw [if_pos hk, List.getElem?_range hk]
          have : k < s.length := by omega
          simp [List.getElem?_eq_getElem this, List.getD]
        · rw [if_neg hk]
          simp [List.getElem?_eq_none, hk]
      · simp only [List.getElem?_map, Option.map_eq_some_iff] at hy
        obtain ⟨b, hb, rfl⟩ := hy
        simp only [List.getD, hb, Option.getD_some]
        exact .p (.int _ _)
    · cases h
  · cases h

theorem SrcC.src {z : Nat} {x : Value} {n : Nat} {cs : List RV} {u : Nat → Value} (h : SrcC P X ow S w z x n cs u) : Src P w z x n ((List.range (n * z)).map u).toArray where
  len := h.len
  cells := fun w' hw => h.cells w' hw n (Nat.le_refl n)
  size := by simp

/-! ### A row that takes another one's place -/
def owKill (ow : Ow) (N β b : Nat) : Ow := fun γ => if γ = N then some (.mem b) else if γ = β then none else ow γ
theorem owKill_some {ow : Ow} {N β b γ : Nat} {o : Owner} (h : owKill ow N β b γ = some o) : (γ = N ∧ o = .mem b) ∨ (γ ≠ N ∧ γ ≠ β ∧ ow γ = some o) := by
  unfold owKill at h
  split at h
  · cases h; exact .inl ⟨by assumption, rfl⟩
  · split at h
    · cases h
    · exact .inr ⟨by assumption, by assumption, h⟩
theorem owKill_old {ow : Ow} {N β b γ : Nat} (h1 : γ ≠ N) (h2 : γ ≠ β) : owKill ow N β b γ = ow γ := by unfold owKill; rw [if_neg h1, if_neg h2]

theorem MRel.killPush (hM : MRel X ow S w) {b β : Nat} {t : Nat} {cs : List RV} (hS : S.mem[b]? = some (.cells t cs)) (hb : ow β = some (.mem b)) {w' : World} (N : Nat) (hN : N = β ∨ w.heap.size ≤ N) (hN' : N < w'.heap.size)
    (hh : ∀ γ, γ < w.heap.size → γ ≠ β → w'.heap[γ]? = w.heap[γ]?) (hs : w.heap.size ≤ w'.heap.size) (ho : w'.os = w.os) (ht : w'.tape = w.tape) (hp : w'.output = w.output) (k : Blk)
    (hk : Tr X ow S.toks w (owKill ow N β S.mem.length) (S.toks ++ [(b, 0, 0)]) w' → ¬ Dead (S.toks ++ [(b, 0, 0)]) S.mem.length → BlkRep (FX X (owKill ow N β S.mem.length) (S.toks ++ [(b, 0, 0)])) w' (owKill ow N β S.mem.length) (S.toks ++ [(b, 0, 0)]) S.mem.length k) :
    MRel X (owKill ow N β S.mem.length) { S with mem := S.mem.set b .dead ++ [k], toks := S.toks ++ [(b, 0, 0)] } w' ∧
      Tr X ow S.toks w (owKill ow N β S.mem.length) (S.toks ++ [(b, 0, 0)]) w' := by
  have hbl : b < S.mem.length := (List.getElem?_eq_some_iff.1 hS).1
  have hβ := hM.bnd _ _ hb
  have hNe : ∀ γ, γ < w.heap.size → γ ≠ β → γ ≠ N := by
    intro γ h1 h2 h3
    rcases hN with h | h <;> omega
  have hdead : ∀ c, Dead (S.toks ++ [(b, 0, 0)]) c ↔ (Dead S.toks c ∨ c = b) := by
    intro c
    unfold Dead
    rw [List.mem_append]
    simp
  have tr : Tr X ow S.toks w (owKill ow N β S.mem.length) (S.toks ++ [(b, 0, 0)]) w' :=
    { st := fun γ o u h h0 => by
        have hγ := cell_lt h
        have hne : γ ≠ β := by
          rintro rfl
          refine h0 (.inr ?_)
          unfold Mut
          rw [hb]; trivial
        refine ⟨by rw [cell_ne (hh γ hγ hne)]; exact h, fun hx => h0 ?_⟩
        rcases hx with hx | hx
        · exact .inl hx
        · right
          unfold Mut at *
          rw [owKill_old (hNe γ hγ hne) hne] at hx
          revert hx
          cases hq : ow γ with
          | none => exact id
          | some q =>
            cases q with
            | mem c => exact id
            | loc d => exact id
            | tok t' =>
              rintro ⟨e', z', h1, h2⟩
              rw [List.getElem?_append_left (hM.toklt _ _ hq)] at h1
              exact ⟨e', z', h1, h2⟩
      mem := fun γ c h => by
        have hγ := hM.bnd _ _ h
        by_cases hne : γ = β
        · subst hne
          rw [hb] at h
          cases h
          exact .inl ((hdead _).2 (.inr rfl))
        · exact .inr ⟨by rw [owKill_old (hNe γ hγ hne) hne, h], by unfold World.shape?; rw [hh γ hγ hne]⟩
      tl := by simp
      tok := fun t' e' z' htl h => by
        rw [List.getElem?_append_left htl] at h
        refine ⟨e', h, Nat.le_refl _, fun _ => rfl, fun _ γ sh h1 h2 => ?_⟩
        have hγ := hM.bnd _ _ h1
        have hne : γ ≠ β := by rintro rfl; rw [hb] at h1; cases h1
        refine ⟨by rw [owKill_old (hNe γ hγ hne) hne, h1], ?_⟩
        unfold World.shape? at *
        rw [hh γ hγ hne]; exact h2
      fr := fun γ hγ hn => by
        have hne : γ ≠ β := by rintro rfl; rw [hb] at hn; cases hn
        exact ⟨by rw [owKill_old (hNe γ hγ hne) hne, hn], hh γ hγ hne⟩
      size := hs
      os := ho
      tape := ht
      output := hp }
  refine ⟨?_, tr⟩
  exact
    { inj := fun γ γ' o h h' => by
        rcases owKill_some h with ⟨h1, h2⟩ | ⟨h1, h2, h3⟩ <;> rcases owKill_some h' with ⟨h4, h5⟩ | ⟨h4, h5, h6⟩
        · omega
        · subst h2; exact absurd (hM.memlt _ _ h6) (by omega)
        · subst h5; exact absurd (hM.memlt _ _ h3) (by omega)
        · exact hM.inj _ _ _ h3 h6
      bnd := fun γ o h => by
        rcases owKill_some h with ⟨h1, h2⟩ | ⟨h1, h2, h3⟩
        · omega
        · have := hM.bnd _ _ h3; omega
      xb := fun γ o hx => by
        obtain ⟨h1, h2⟩ := hM.xb γ o hx
        exact ⟨Nat.lt_of_lt_of_le h1 hs, (tr.fr γ h1 h2).1⟩
      memlt := fun γ c h => by
        simp only [List.length_append, List.length_set, List.length_singleton]
        rcases owKill_some h with ⟨h1, h2⟩ | ⟨h1, h2, h3⟩
        · cases h2; omega
        · have := hM.memlt _ _ h3; omega
      toklt := fun γ c h => by
        simp only [List.length_append, List.length_singleton]
        rcases owKill_some h with ⟨h1, h2⟩ | ⟨h1, h2, h3⟩
        · cases h2
        · have := hM.toklt _ _ h3; omega
      locin := fun γ d h => by
        rcases owKill_some h with ⟨h1, h2⟩ | ⟨h1, h2, h3⟩
        · cases h2
        · exact hM.locin _ _ h3
      deadlt := fun c h => by
        simp only [List.length_append, List.length_set, List.length_singleton]
        rcases (hdead c).1 h with h | h
        · have := hM.deadlt _ h; omega
        · omega
      blk := fun c k' h => by
        simp only at h
        by_cases hc : c < S.mem.length
        · rw [List.getElem?_append_left (by simpa using hc), List.getElem?_set] at h
          by_cases hcb : b = c
          · subst hcb
            rw [if_pos rfl, if_pos hc] at h
            cases h
            trivial
          · rw [if_neg hcb] at h
            refine (hM.blk c k' h).mono tr (fun hd => ?_) (fun γ hγ => ?_)
            · rcases (hdead c).1 hd with hd | hd
              · exact hd
              · exact absurd hd.symm hcb
            · exact hh γ (hM.bnd _ _ hγ) (by rintro rfl; rw [hb] at hγ; cases hγ; exact hcb rfl)
        · have hc' : c = S.mem.length := by
            have := (List.getElem?_eq_some_iff.1 h).1
            simp at this; omega
          subst hc'
          rw [List.getElem?_append_right (by simp)] at h
          simp at h
          subst h
          refine hk tr (fun hd => ?_)
          rcases (hdead _).1 hd with hd | hd
          · exact absurd (hM.deadlt _ hd) (by omega)
          · omega
      loc := fun d cs' h => by
        obtain ⟨γ, hγ, hr⟩ := hM.loc d cs' h
        have hne : γ ≠ β := by rintro rfl; rw [hb] at hγ; cases hγ
        exact ⟨γ, by rw [owKill_old (hNe γ (hM.bnd _ _ hγ) hne) hne, hγ], hr.mono tr (hh γ (hM.bnd _ _ hγ) hne)⟩
      tok := fun t' e' z' h hz => by
        simp only at h
        by_cases hc : t' < S.toks.length
        · rw [List.getElem?_append_left hc] at h
          obtain ⟨γ, vs, fr, h1, h2, h3⟩ := hM.tok t' e' z' h hz
          have hne : γ ≠ β := by rintro rfl; rw [hb] at h1; cases h1
          exact ⟨γ, vs, fr, by rw [owKill_old (hNe γ (hM.bnd _ _ h1) hne) hne, h1], (hh γ (hM.bnd _ _ h1) hne).trans h2, h3⟩
        · have hc' : t' = S.toks.length := by
            have := (List.getElem?_eq_some_iff.1 h).1
            simp at this; omega
          subst hc'
          simp at h
          obtain ⟨_, rfl⟩ := h
          exact absurd rfl hz }

/-! ### Append to a row that may be written -/
def growA (z ty bytes : Nat) (r x : RV) (S : Mem) : Option (RV × Mem) :=
  match srcC z x S with
  | none => none
  | some (n, new) => match r with
    | .nsl b => if n = 0 then some (.nsl b, S) else
      if n * bytes ≤ lim then some (.rs S.mem.length 0 n z, { S with mem := S.mem ++ [.cells (2 * ty + 1) new] }) else none
    | .rs b off len z' => if z' = z then match S.mem[b]? with
      | some (.cells t cs) => if n = 0 then some (.rs b off len z, S) else
        if off + (len + n) * z ≤ cs.length then some (.rs b off (len + n) z, { S with mem := S.mem.set b (.cells t (over cs (off + len * z) new)) }) else
        if (len + n) * bytes ≤ lim then match sub cs off (len * z) with
          | some old =>
            if t = 2 * ty then some (.rs S.mem.length 0 (len + n) z, { S with mem := S.mem ++ [.cells (2 * ty + 1) (old ++ new)] }) else
            if t = 2 * ty + 1 ∧ off = 0 then some (.rs S.mem.length 0 (len + n) z, { S with mem := S.mem.set b .dead ++ [.cells (2 * ty + 1) (old ++ new)], toks := S.toks ++ [(b, 0, 0)] }) else none
          | none => none
        else none
      | _ => none else none
    | _ => none

theorem odd_div (ty : Nat) : (2 * ty + 1) / 2 = ty := by omega

theorem ok_grow (hM : MRel X ow S w) {t u ty e : TypeId} {ti : TypeInfo} {zv : Value} (ht : P.underlying t = some (.slice e)) (hu : strOrSl (P.underlying u) = true) (hi : P.info? e = some ti) (hz : ti.zero = some zv)
    (hzs : zv.cells.size = ti.size) (hz0 : ti.size ≠ 0) (hb0 : ti.bytes ≠ 0) {r x r' : RV} {v y : Value} {S' : Mem}
    (hr : RRep (FX X ow S.toks) w ow S.toks r v) (hx : RRep (FX X ow S.toks) w ow S.toks x y) (h : growA ti.size e ti.bytes r x S = some (r', S')) : OpOk X ow S w ((Builtin.append_ #[t, u] ty #[v, y]).run P w) r' S' none := by
  unfold growA at h
  split at h
  · cases h
  · rename_i n new hsrc
    obtain ⟨un, sc⟩ := src_cells (P := P) hM hz0 hx hsrc
    have hs := sc.src
    have hM1 : MRel X ow S w.drew := hM.heap rfl rfl rfl rfl
    have tr1 : Tr X ow S.toks w ow S.toks w.drew := Tr.heap (X := X) (ow := ow) (T := S.toks) (w := w) (w' := w.drew) rfl rfl rfl rfl
    have hnews : ((List.range (n * ti.size)).map un).toArray.size = n * ti.size := by simp
    have hnewg : ∀ k, k < n * ti.size → ((List.range (n * ti.size)).map un).toArray[k]? = some (un k) := by
      intro k hk; simp [hk]
    split at h
    · -- nothing was there
      rename_i b
      have hfr := hr.f rfl
      cases hfr with | nsl _ a hnil =>
      split at h
      · rename_i hn
        subst hn
        cases h
        refine OpOk.samef hM ?_ (.nsl _ a hnil)
        rw [run_inplace ht hu hi a 0 0 hs (by simp)]
        cases a <;> simp [storeCells]
      · rename_i hn
        split at h
        · rename_i hlim
          cases h
          unfold lim at hlim
          have hb1 : n ≤ n * ti.bytes := Nat.le_mul_of_pos_right _ (by omega)
          have hold : ∀ w' : World, w'.heap = w.heap → (Builtin.firstCells ti.size 0 (.slice a 0 0)).run P w' = .ok #[] w' := by
            intro w' _
            cases a <;> simp [Builtin.firstCells, loadCells, loadCellsFrom]
          have hrun := run_grow (P := P) (w := w) (ty := ty) ht hu hi hz a 0 0 hold hs (by omega) (by omega) (by simpa using (by omega : n * ti.bytes ≤ 140737488355328))
          simp only [Nat.zero_add] at hrun
          have hcap := grownCap_ge w n 0 e
          generalize hC : grownCap w n 0 e = C at *
          have hbs : (#[] ++ ((List.range (n * ti.size)).map un).toArray ++ Builtin.zeroCells zv.cells (C - n)).size = C * ti.size := by
            simp only [Array.size_append, Builtin.zeroCells, Array.size_map, Array.size_range, hzs, List.size_toArray, List.length_nil, List.length_map, List.length_range]
            rw [Nat.zero_add, ← Nat.add_mul]
            congr 1
            omega
          have hle : n * ti.size ≤ C * ti.size := Nat.mul_le_mul_right _ (by omega)
          have q := hM1.pushRow (#[] ++ ((List.range (n * ti.size)).map un).toArray ++ Builtin.zeroCells zv.cells (C - n)) (2 * e + 1) new ⟨by rw [hbs, sc.size]; exact hle, fun h => by omega⟩ (fun k y q h1 h2 => by
            have hk : k < n * ti.size := by rw [← sc.size]; exact (List.getElem?_eq_some_iff.1 h1).1
            rw [Array.getElem?_append_left (by simpa using hk)] at h2
            simp [hk] at h2
            subst h2
            exact (sc.rep k y h1).mono tr1)
          rw [odd_div] at q
          obtain ⟨m1, m2⟩ := q
          refine ⟨_, _, _, hrun, m1, tr1.trans m2, fun β d h _ => by have := @owNew_old ow w.drew.heap.size β (.mem S.mem.length) (hM.bnd _ _ h); rw [this, h], .inr (.rs _ _ _ _ _ _ (.inr ⟨owNew_new, e, ?_⟩) (by omega))⟩
          rw [show w.heap.size = w.drew.heap.size from rfl, shape_push_new, hbs, Nat.zero_add]
        · cases h
    · -- a row of one's own
      rename_i b off len z'
      split at h
      · rename_i hzz
        subst hzz
        have hfr := hr.f rfl
        cases hfr with | rs _ _ _ _ β cap ho hcap =>
        split at h
        · rename_i t0 cs hcs
          obtain ⟨hoβ, sty, hsh⟩ := hM.alive hcs ho
          obtain ⟨γ, hγ, vs, fr, h1, h2, ⟨h3, h3'⟩, h4⟩ := hM.cells hcs
          obtain rfl := hM.inj _ _ _ hγ hoβ
          have hvs : vs.size = off + cap * ti.size := by
            unfold World.shape? at hsh
            rw [h1] at hsh
            simp at hsh
            exact hsh.2
          split at h
          · rename_i hn
            subst hn
            cases h
            refine OpOk.samef hM ?_ (.rs b off len ti.size γ cap ho hcap)
            rw [run_inplace ht hu hi _ len cap hs (by omega)]
            simp [storeCells]
          · rename_i hn
            split at h
            · -- within what is known
              rename_i hin
              cases h
              have hincap : len + n ≤ cap := by
                refine Nat.le_of_mul_le_mul_right (c := ti.size) ?_ (by omega)
                omega
              have hmul : (len + n) * ti.size = len * ti.size + n * ti.size := Nat.add_mul _ _ _
              obtain ⟨m1, m2⟩ := hM.writeMem (o := off + len * ti.size) (l := new) (us := (List.range (n * ti.size)).map un) hcs hoβ (by rw [sc.size]; simp) (by rw [sc.size]; omega) (fun k y q h1 h2 => by
                have hk : k < n * ti.size := by rw [← sc.size]; exact (List.getElem?_eq_some_iff.1 h1).1
                simp [hk] at h2
                subst h2
                exact sc.rep k y h1)
              have hstore : (storeCells ((⟨γ, off, none⟩ : Addr).add (len * ti.size)) ((List.range (n * ti.size)).map un).toArray.toList).run P w = .ok () (w.setCells γ (off + len * ti.size) ((List.range (n * ti.size)).map un)) := by
                rw [addr_add]
                have := run_storeCells_cells (P := P) γ (off + len * ti.size) ((List.range (n * ti.size)).map un) 0 w (fun j hj => by
                  simp at hj
                  simp [World.cell?, h1, show off + len * ti.size + j < vs.size by omega]) (fun j hj => by
                  simp at hj
                  have := h2 (off + len * ti.size + j) (by omega)
                  obtain ⟨lo, hi'⟩ := fr
                  simp only [World.frozen?, h1, Nat.add_zero, Bool.and_eq_false_iff, decide_eq_false_iff_not]
                  simp only at this
                  omega) (fun q hq => by
                  obtain ⟨k, hk, rfl⟩ := List.mem_map.1 hq
                  exact sc.one k (by simpa using hk))
                simpa using this
              refine ⟨_, _, _, by rw [run_inplace ht hu hi _ len cap hs hincap]; simp only [hstore, Result.andThen_ok], m1, m2, fun _ _ h _ => h, .inr (.rs _ _ _ _ γ cap (.inr ⟨hoβ, sty, ?_⟩) hincap)⟩
              rw [shape_setCells]; exact hsh
            · rename_i hout
              split at h
              · rename_i hlim
                unfold lim at hlim
                have hb1 : len + n ≤ (len + n) * ti.bytes := Nat.le_mul_of_pos_right _ (by omega)
                have hmul : (len + n) * ti.size = len * ti.size + n * ti.size := Nat.add_mul _ _ _
                split at h
                · rename_i old hold
                  obtain ⟨e1, e2, e3⟩ := sub_spec hold
                  have hcl : len * ti.size ≤ cap * ti.size := Nat.mul_le_mul_right _ hcap
                  have holdr : ∀ (k : Nat) y, old[k]? = some y → FRep (FX X ow S.toks) w ow S.toks y (vs.getD (off + k) undef) := by
                    intro k y hy
                    have hk : k < len * ti.size := by rw [← e1]; exact (List.getElem?_eq_some_iff.1 hy).1
                    rw [e3 k hk] at hy
                    exact h4 (off + k) y _ hy (by simp [show off + k < vs.size by omega])
                  -- the row that is made, if there is no room
                  have grown : cap < len + n → ∃ w', (Builtin.append_ #[t, u] ty #[.slice (some ⟨γ, off, none⟩) len cap, y]).run P w = .ok (.slice (some ⟨w.heap.size, 0, none⟩) (len + n) (grownCap w (len + n) cap e)) w' ∧
                      ∃ bs : Array Value, w' = w.drew.alloc (.cells bs e) ∧ bs.size = grownCap w (len + n) cap e * ti.size ∧ len + n ≤ grownCap w (len + n) cap e ∧ ∀ (k : Nat) y q, (old ++ new)[k]? = some y → bs[k]? = some q → FRep (FX X ow S.toks) w ow S.toks y q := by
                    intro hg
                    have holdrun : ∀ w' : World, w'.heap = w.heap → (Builtin.firstCells ti.size len (.slice (some ⟨γ, off, none⟩) len cap)).run P w' = .ok ((List.range (len * ti.size)).map fun k => vs.getD (off + k) undef).toArray w' := by
                      intro w' hw
                      simp only [Builtin.firstCells]
                      refine run_loadCells w' _ _ (fun k => vs.getD (off + k) undef) (fun j hj => ?_)
                      rw [addr_add]
                      simp [World.cell?, hw, h1, show off + j < vs.size by omega]
                    have hrun := run_grow (P := P) (w := w) (ty := ty) ht hu hi hz (some ⟨γ, off, none⟩) len cap holdrun hs (by omega) (by omega) (by omega)
                    have hc := grownCap_ge w (len + n) cap e
                    generalize hC : grownCap w (len + n) cap e = C at *
                    refine ⟨_, hrun, _, rfl, ?_, by omega, fun k y q g1 g2 => ?_⟩
                    · simp only [Array.size_append, Builtin.zeroCells, Array.size_map, Array.size_range, hzs, List.size_toArray, List.length_map, List.length_range]
                      rw [← Nat.add_mul, ← Nat.add_mul]
                      congr 1
                      omega
                    · by_cases hk : k < len * ti.size
                      · rw [List.getElem?_append_left (by omega)] at g1
                        rw [Array.getElem?_append_left (by simp; omega), Array.getElem?_append_left (by simpa using hk)] at g2
                        simp [hk] at g2
                        subst g2
                        have := holdr k y g1
                        rwa [Array.getD_eq_getD_getElem?] at this
                      · rw [List.getElem?_append_right (by omega), e1] at g1
                        have hk2 : k - len * ti.size < n * ti.size := by rw [← sc.size]; exact (List.getElem?_eq_some_iff.1 g1).1
                        rw [Array.getElem?_append_left (by simp; omega), Array.getElem?_append_right (by simp; omega)] at g2
                        simp [hk2] at g2
                        subst g2
                        exact sc.rep _ y g1
                  have hlen2 : (old ++ new).length = (len + n) * ti.size := by rw [List.length_append, e1, sc.size]; omega
                  split at h
                  · -- an exact row: it moves
                    rename_i ht0
                    subst ht0
                    cases h
                    have hex := h3' (Nat.mul_mod_right 2 e)
                    have hg : cap < len + n := by
                      apply Nat.lt_of_not_le
                      intro hle
                      have := Nat.mul_le_mul_right ti.size hle
                      omega
                    obtain ⟨w', hrun, bs, rfl, hbs, hcap', hrep⟩ := grown hg
                    have q := hM1.pushRow bs (2 * e + 1) (old ++ new) ⟨by rw [hlen2, hbs]; exact Nat.mul_le_mul_right _ hcap', fun h => by omega⟩ (fun k y q g1 g2 => (hrep k y q g1 g2).mono tr1)
                    rw [odd_div] at q
                    obtain ⟨m1, m2⟩ := q
                    refine ⟨_, _, _, hrun, m1, tr1.trans m2, fun β d h _ => by have := @owNew_old ow w.drew.heap.size β (.mem S.mem.length) (hM.bnd _ _ h); rw [this, h], .inr (.rs _ _ _ _ _ _ (.inr ⟨owNew_new, e, ?_⟩) (by omega))⟩
                    rw [show w.heap.size = w.drew.heap.size from rfl, shape_push_new, hbs, Nat.zero_add]
                  · split at h
                    · -- it lies where it lay, or it moves
                      rename_i _ ht0
                      obtain ⟨rfl, rfl⟩ := ht0
                      cases h
                      rw [odd_div] at h1
                      have hγs := hM.bnd _ _ hoβ
                      by_cases hg : cap < len + n
                      · obtain ⟨w', hrun, bs, rfl, hbs, hcap', hrep⟩ := grown hg
                        obtain ⟨m1, m2⟩ := hM1.killPush (w' := w.drew.alloc (.cells bs e)) hcs hoβ w.heap.size (.inr (Nat.le_refl _)) (by simp) (fun δ hδ _ => heap_push _ hδ) (by simp) rfl rfl rfl (.cells (2 * e + 1) (old ++ new))
                          (fun tr hd => ⟨hd, w.heap.size, by unfold owKill; rw [if_pos rfl], bs, (0, 0), by rw [odd_div]; exact heap_push_new w.drew _, fun o _ h => by simp at h, ⟨by rw [hlen2, hbs]; exact Nat.mul_le_mul_right _ hcap', fun h => by omega⟩,
                            fun k y q g1 g2 => ((hrep k y q g1 g2).mono tr1).mono tr⟩)
                        refine ⟨_, _, _, hrun, m1, tr1.trans m2, fun δ d h _ => by rw [owKill_old (by have := hM.bnd _ _ h; omega) (by rintro rfl; rw [hoβ] at h; cases h), h], .inr (.rs _ _ _ _ _ _ (.inr ⟨by unfold owKill; rw [if_pos rfl], e, ?_⟩) (by omega))⟩
                        rw [show w.heap.size = w.drew.heap.size from rfl, shape_push_new, hbs, Nat.zero_add]
                      · have hincap : len + n ≤ cap := by omega
                        have hmc := Nat.mul_le_mul_right ti.size hincap
                        have hstore : (storeCells ((⟨γ, 0, none⟩ : Addr).add (len * ti.size)) ((List.range (n * ti.size)).map un).toArray.toList).run P w = .ok () (w.setCells γ (len * ti.size) ((List.range (n * ti.size)).map un)) := by
                          rw [addr_add]
                          have := run_storeCells_cells (P := P) γ (0 + len * ti.size) ((List.range (n * ti.size)).map un) 0 w (fun j hj => by
                            simp at hj
                            simp [World.cell?, h1, show len * ti.size + j < vs.size by omega]) (fun j hj => by
                            simp at hj
                            have := h2 (len * ti.size + j) (by omega)
                            obtain ⟨lo, hi'⟩ := fr
                            simp only [World.frozen?, h1, Nat.add_zero, Nat.zero_add, Bool.and_eq_false_iff, decide_eq_false_iff_not]
                            simp only at this
                            omega) (fun q hq => by
                            obtain ⟨k, hk, rfl⟩ := List.mem_map.1 hq
                            exact sc.one k (by simpa using hk))
                          simpa using this
                        obtain ⟨s1, s2, s3, s4, s5⟩ := setCells_misc γ ((List.range (n * ti.size)).map un) (len * ti.size) w
                        have hrow := setCells_row γ e fr ((List.range (n * ti.size)).map un) (len * ti.size) vs w h1 (by simp; omega)
                        have hov : (over vs.toList (len * ti.size) ((List.range (n * ti.size)).map un)).length = vs.size := by rw [over_length _ _ _ (by simp; omega)]; simp
                        obtain ⟨m1, m2⟩ := hM.killPush (w' := w.setCells γ (len * ti.size) ((List.range (n * ti.size)).map un)) hcs hoβ γ (.inl rfl) (by rw [s4]; exact hγs) (fun δ _ hne => s5 δ hne) (by rw [s4]; exact Nat.le_refl _) s1 s2 s3 (.cells (2 * e + 1) (old ++ new))
                          (fun tr hd => ⟨hd, γ, by unfold owKill; rw [if_pos rfl], _, fr, by rw [odd_div]; exact hrow, fun o hlt => h2 o (by simpa [hov] using hlt), ⟨by rw [hlen2]; simp only [List.size_toArray, hov]; omega, fun h => by omega⟩,
                            fun k y q g1 g2 => by
                              simp only [List.getElem?_toArray] at g2
                              rw [over_get _ _ _ (by simp; omega)] at g2
                              by_cases hk : k < len * ti.size
                              · rw [List.getElem?_append_left (by omega)] at g1
                                rw [if_neg (by omega)] at g2
                                have := holdr k y g1
                                rw [Nat.zero_add, Array.getD_eq_getD_getElem?, ← Array.getElem?_toList, g2] at this
                                exact this.mono tr
                              · rw [List.getElem?_append_right (by omega), e1] at g1
                                have hk2 : k - len * ti.size < n * ti.size := by rw [← sc.size]; exact (List.getElem?_eq_some_iff.1 g1).1
                                rw [if_pos (by simp; omega)] at g2
                                simp [hk2] at g2
                                subst g2
                                exact (sc.rep _ y g1).mono tr⟩)
                        refine ⟨_, _, _, by rw [run_inplace ht hu hi _ len cap hs hincap]; simp only [hstore, Result.andThen_ok], m1, m2, fun δ d h _ => by
                          have hne : δ ≠ γ := by rintro rfl; rw [hoβ] at h; cases h
                          rw [owKill_old hne hne, h], .inr (.rs _ _ _ _ γ cap (.inr ⟨by unfold owKill; rw [if_pos rfl], sty, ?_⟩) hincap)⟩
                        rw [shape_setCells]; exact hsh
                    · cases h
                · cases h
              · cases h
        · cases h
      · cases h
    · cases h

/-! ### Clear and copy -/
def clrA (z : Nat) (zc : List RV) (r : RV) (S : Mem) : Option (RV × Mem) :=
  match r with
  | .nsl _ => some (.p (.tup []), S)
  | .p (.sl []) => some (.p (.tup []), S)
  | .rs b off len z' => if z' = z ∧ zc.length = z ∧ zc.all RV.isCell = true then match S.mem[b]? with
    | some (.cells t cs) => if off + len * z ≤ cs.length then some (.p (.tup []), { S with mem := S.mem.set b (.cells t (over cs off (List.replicate len zc).flatten)) }) else none
    | _ => none else none
  | _ => none
def cpyA (z : Nat) (r x : RV) (S : Mem) : Option (RV × Mem) :=
  match srcC z x S with
  | none => none
  | some (n, new) => match r with
    | .nsl _ => some (.p (.int .i64 0), S)
    | .p (.sl []) => some (.p (.int .i64 0), S)
    | .rs b off len z' => if z' = z then match S.mem[b]? with
      | some (.cells t cs) => if off + len * z ≤ cs.length then some (.p (.int .i64 (Nat.min n len : Nat)), { S with mem := S.mem.set b (.cells t (over cs off (new.take (Nat.min n len * z)))) }) else none
      | _ => none else none
    | _ => none

theorem ok_clr (hM : MRel X ow S w) {t ty e : TypeId} {ti : TypeInfo} {zv : Value} (ht : P.underlying t = some (.slice e)) (hi : P.info? e = some ti) (hz : ti.zero = some zv) (hzs : zv.cells.size = ti.size) (hz0 : ti.size ≠ 0)
    {r r' : RV} {v : Value} {S' : Mem} (hr : RRep (FX X ow S.toks) w ow S.toks r v) (h : clrA ti.size (zeroCells zv) r S = some (r', S')) : OpOk X ow S w ((Builtin.clear_ #[t] ty #[v]).run P w) r' S' none := by
  have unit : FRep (FX X ow S.toks) w ow S.toks (.p (.tup [])) (.tuple #[]) := .p (.tup [] #[] rfl (by simp))
  unfold clrA at h
  split at h
  · cases h
    have hf := hr.f rfl
    cases hf with | nsl _ a hn =>
    refine OpOk.samef hM ?_ unit
    cases a <;> simp [Builtin.clear_, run_underlying ht]
  · cases h
    have hf := hr.f rfl
    cases hf with | p hf => cases hf with | sl _ a cap esz u h1 h2 h3 h4 h5 =>
    refine OpOk.samef hM ?_ unit
    cases a <;> simp [Builtin.clear_, run_underlying ht]
  · rename_i b off len z'
    split at h
    · rename_i hc
      obtain ⟨rfl, hzl, hall⟩ := hc
      split at h
      · rename_i t0 cs hcs
        split at h
        · rename_i hin
          cases h
          have hf := hr.f rfl
          cases hf with | rs _ _ _ _ β cap ho hcap =>
          obtain ⟨hoβ, sty, hsh⟩ := hM.alive hcs ho
          obtain ⟨γ, hγ, vs, fr, h1, h2, ⟨h3, h3'⟩, h4⟩ := hM.cells hcs
          obtain rfl := hM.inj _ _ _ hγ hoβ
          obtain ⟨z1, z2⟩ := zeroCells_rep (w := w) (F := FX X ow S.toks) (ow := ow) (T := S.toks) zv
          have hlen : (List.replicate len (zeroCells zv)).flatten.length = len * ti.size := by simp [hzl]
          have hzsz : (Builtin.zeroCells zv.cells len).toList.length = len * ti.size := by simp [Builtin.zeroCells, hzs]
          have hzget : ∀ (k : Nat) q, (Builtin.zeroCells zv.cells len).toList[k]? = some q → k < len * ti.size ∧ zv.cells[k % ti.size]? = some q := by
            intro k q hq
            have hk := (List.getElem?_eq_some_iff.1 hq).1
            rw [hzsz] at hk
            simp [Builtin.zeroCells, hzs, hk] at hq
            have hkm : k % ti.size < zv.cells.size := by rw [hzs]; exact Nat.mod_lt _ (by omega)
            exact ⟨hk, by rw [← hq, Array.getElem?_eq_getElem hkm, getElem!_pos zv.cells _ hkm]⟩
          have hrep : ∀ (k : Nat) y q, (List.replicate len (zeroCells zv)).flatten[k]? = some y → (Builtin.zeroCells zv.cells len).toList[k]? = some q → FRep (FX X ow S.toks) w ow S.toks y q := by
            intro k y q g1 g2
            obtain ⟨hk, hq⟩ := hzget k q g2
            rw [replicate_flatten_get _ (by rw [hzl]; exact hz0), hzl, if_pos hk] at g1
            exact z2 _ y q g1 hq
          have hone : ∀ q ∈ (Builtin.zeroCells zv.cells len).toList, q.oneCell' = true := by
            intro q hq
            obtain ⟨k, hk⟩ := List.getElem?_of_mem hq
            obtain ⟨hkl, hkq⟩ := hzget k q hk
            have hkm : k % ti.size < (zeroCells zv).length := by rw [hzl]; exact Nat.mod_lt _ (by omega)
            simp only [List.all_eq_true] at hall
            exact cell_one (z2 _ _ q (List.getElem?_eq_getElem hkm) hkq) (hall _ (List.getElem_mem hkm))
          obtain ⟨m1, m2⟩ := hM.writeMem (o := off) (l := (List.replicate len (zeroCells zv)).flatten) (us := (Builtin.zeroCells zv.cells len).toList) hcs hoβ (by rw [hlen, hzsz]) (by rw [hlen]; exact hin) hrep
          have hstore : (storeCells ⟨γ, off, none⟩ (Builtin.zeroCells zv.cells len).toList).run P w = .ok () (w.setCells γ off (Builtin.zeroCells zv.cells len).toList) := by
            have := run_storeCells_cells (P := P) γ off (Builtin.zeroCells zv.cells len).toList 0 w (fun j hj => by
              rw [hzsz] at hj
              simp [World.cell?, h1, show off + j < vs.size by omega]) (fun j hj => by
              rw [hzsz] at hj
              have := h2 (off + j) (by omega)
              obtain ⟨lo, hi'⟩ := fr
              simp only [World.frozen?, h1, Nat.add_zero, Bool.and_eq_false_iff, decide_eq_false_iff_not]
              simp only at this
              omega) hone
            simpa using this
          by_cases hl0 : len = 0
          · subst hl0
            have e0 : w.setCells γ off (Builtin.zeroCells zv.cells 0).toList = w := by simp [Builtin.zeroCells, World.setCells]
            rw [e0] at m1 m2
            exact ⟨_, _, _, by simp [Builtin.clear_, run_underlying ht], m1, m2, fun _ _ h _ => h, .inr (unit.mono m2)⟩
          · refine ⟨.tuple #[], _, _, ?_, m1, m2, fun _ _ h _ => h, .inr (unit.mono m2)⟩
            obtain ⟨len, rfl⟩ := Nat.exists_eq_succ_of_ne_zero hl0
            simp [Builtin.clear_, run_underlying ht, zeroValue, typeInfo, hi, hz, hstore]
        · cases h
      · cases h
    · cases h
  · cases h

theorem ok_cpy (hM : MRel X ow S w) {t u ty e : TypeId} {ti : TypeInfo} (ht : P.underlying t = some (.slice e)) (hi : P.info? e = some ti) (hz0 : ti.size ≠ 0)
    {r x r' : RV} {v y : Value} {S' : Mem} (hr : RRep (FX X ow S.toks) w ow S.toks r v) (hx : RRep (FX X ow S.toks) w ow S.toks x y) (h : cpyA ti.size r x S = some (r', S')) : OpOk X ow S w ((Builtin.copy_ #[t, u] ty #[v, y]).run P w) r' S' none := by
  unfold cpyA at h
  split at h
  · cases h
  · rename_i n new hsrc
    obtain ⟨un, sc⟩ := src_cells (P := P) hM hz0 hx hsrc
    have none0 : ∀ a cap, (Builtin.copy_ #[t, u] ty #[.slice a 0 cap, y]).run P w = .ok (.int .i64 0) w := by
      intro a cap
      have hc := sc.cells w rfl 0 (Nat.zero_le _)
      simp only [Nat.zero_mul, List.range_zero, List.map_nil] at hc
      have hmin : Nat.min n 0 = 0 := Nat.min_eq_right (Nat.zero_le _)
      cases a <;> simp [Builtin.copy_, run_underlying ht, sizeOf, typeInfo, hi, sc.len, hmin, hc, storeCells, goInt]
    split at h
    · cases h
      have hf := hr.f rfl
      cases hf with | nsl _ a hn =>
      exact OpOk.samef hM (none0 a 0) (.p (.int _ _))
    · cases h
      have hf := hr.f rfl
      cases hf with | p hf => cases hf with | sl _ a cap esz u h1 h2 h3 h4 h5 =>
      exact OpOk.samef hM (none0 a cap) (.p (.int _ _))
    · rename_i b off len z'
      split at h
      · rename_i hzz
        subst hzz
        split at h
        · rename_i t0 cs hcs
          split at h
          · rename_i hin
            cases h
            have hf := hr.f rfl
            cases hf with | rs _ _ _ _ β cap ho hcap =>
            obtain ⟨hoβ, sty, hsh⟩ := hM.alive hcs ho
            obtain ⟨γ, hγ, vs, fr, h1, h2, ⟨h3, h3'⟩, h4⟩ := hM.cells hcs
            obtain rfl := hM.inj _ _ _ hγ hoβ
            have hmn : Nat.min n len ≤ n := Nat.min_le_left _ _
            have hml : Nat.min n len ≤ len := Nat.min_le_right _ _
            generalize hm : Nat.min n len = m at *
            have hmnz : m * ti.size ≤ n * ti.size := Nat.mul_le_mul_right _ hmn
            have hmlz : m * ti.size ≤ len * ti.size := Nat.mul_le_mul_right _ hml
            have htl : (new.take (m * ti.size)).length = m * ti.size := by rw [List.length_take, sc.size]; omega
            have hc := sc.cells w rfl m hmn
            obtain ⟨m1, m2⟩ := hM.writeMem (o := off) (l := new.take (m * ti.size)) (us := (List.range (m * ti.size)).map un) hcs hoβ (by rw [htl]; simp) (by rw [htl]; omega) (fun k y q g1 g2 => by
              have hk : k < m * ti.size := by rw [← htl]; exact (List.getElem?_eq_some_iff.1 g1).1
              simp [hk] at g2
              subst g2
              rw [List.getElem?_take, if_pos hk] at g1
              exact sc.rep k y g1)
            have hstore : (storeCells ⟨γ, off, none⟩ ((List.range (m * ti.size)).map un)).run P w = .ok () (w.setCells γ off ((List.range (m * ti.size)).map un)) := by
              have := run_storeCells_cells (P := P) γ off ((List.range (m * ti.size)).map un) 0 w (fun j hj => by
                simp at hj
                simp [World.cell?, h1, show off + j < vs.size by omega]) (fun j hj => by
                simp at hj
                have := h2 (off + j) (by omega)
                obtain ⟨lo, hi'⟩ := fr
                simp only [World.frozen?, h1, Nat.add_zero, Bool.and_eq_false_iff, decide_eq_false_iff_not]
                simp only at this
                omega) (fun q hq => by
                obtain ⟨k, hk, rfl⟩ := List.mem_map.1 hq
                exact sc.one k (by simp at hk; omega))
              simpa using this
            refine ⟨.int .i64 m, _, _, ?_, m1, m2, fun _ _ h _ => h, .inr (.p (.int _ _))⟩
            simp [Builtin.copy_, run_underlying ht, sizeOf, typeInfo, hi, sc.len, hm, hc, hstore, goInt]
          · cases h
        · cases h
      · cases h
    · cases h

/-! ### Walks over strings -/
def rngA (r : RV) (S : Mem) : Option (RV × Mem) :=
  match r with
  | .p (.str s) => some (.ptr S.mem.length 0, { S with mem := S.mem ++ [.iter s 0] })
  | _ => none
def nxtA (r : RV) (S : Mem) : Option (RV × Mem) :=
  match r with
  | .ptr b 0 => match S.mem[b]? with
    | some (.iter s pos) => if pos < s.length then
        some (.p (.tup [.bool true, .int .i64 pos, .int .i32 (Utf8.decode ⟨⟨s⟩⟩ pos).1]), { S with mem := S.mem.set b (.iter s (pos + (Utf8.decode ⟨⟨s⟩⟩ pos).2)) })
      else some (.p (.tup [.bool false]), S)
    | _ => none
  | _ => none

theorem ok_rng (hM : MRel X ow S w) {t : TypeId} (ht : P.underlying t = some .string) {r r' : RV} {v : Value} {S' : Mem} (hr : RRep (FX X ow S.toks) w ow S.toks r v) (h : rngA r S = some (r', S')) :
    OpOk X ow S w ((Instr.range t v).run P w) r' S' none := by
  unfold rngA at h
  split at h
  · rename_i s
    cases h
    have hf := hr.f rfl
    cases hf with | p hf => cases hf with | str =>
    obtain ⟨m1, m2⟩ := hM.pushBlk (.stringIter ⟨⟨s⟩⟩ 0) (.iter s 0) (fun ow' w' tr ho hh hd => ⟨hd, w.heap.size, ho, hh⟩)
    exact ⟨_, _, _, by rw [run_range_string w t _ ht]; rfl, m1, m2, fun β d h _ => by rw [owNew_old (hM.bnd _ _ h), h], .inr (.ptr _ _ w.heap.size (.inr owNew_new))⟩
  · cases h

theorem ok_nxt (hM : MRel X ow S w) {ty : TypeId} {r r' : RV} {v : Value} {S' : Mem} (hr : RRep (FX X ow S.toks) w ow S.toks r v) (h : nxtA r S = some (r', S')) :
    OpOk X ow S w ((Instr.next v true ty).run P w) r' S' none := by
  have tupR : ∀ {F : Cells} {w : World} (l : List PV) (vs : Array Value), vs.size = l.length → (∀ (k : Nat) x v, l[k]? = some x → vs[k]? = some v → Rep F w x v) → Rep F w (.tup l) (.tuple vs) := fun l vs a b => .tup l vs a b
  unfold nxtA at h
  split at h
  · rename_i b
    split at h
    · rename_i s pos hb
      have hf := hr.f rfl
      cases hf with | ptr _ _ β ho =>
      obtain ⟨hnd, γ, hγ, hh⟩ := hM.blk b _ hb
      have hoβ := ho.resolve_left hnd
      obtain rfl := hM.inj _ _ _ hγ hoβ
      have hsz : (ByteArray.mk ⟨s⟩).size = s.length := rfl
      split at h
      · rename_i hp
        cases h
        generalize hd : Utf8.decode ⟨⟨s⟩⟩ pos = d at *
        have hrun := Lib.run_next_any_at (P := P) w γ ⟨⟨s⟩⟩ pos ty hh (by rw [hsz]; exact hp)
        rw [hd] at hrun
        have hne : ∀ δ, δ ≠ γ → (w.iterAt γ ⟨⟨s⟩⟩ (pos + d.2)).heap[δ]? = w.heap[δ]? := by
          intro δ hδ
          simp only [World.iterAt, Array.getElem?_setIfInBounds]
          rw [if_neg (fun e => hδ e.symm)]
        have hγs := hM.bnd _ _ hγ
        have hsame : (w.iterAt γ ⟨⟨s⟩⟩ (pos + d.2)).heap[γ]? = some (.stringIter ⟨⟨s⟩⟩ (pos + d.2)) := by
          simp only [World.iterAt, Array.getElem?_setIfInBounds, if_true]
          rw [if_pos hγs]
        have hshape : ∀ δ, (w.iterAt γ ⟨⟨s⟩⟩ (pos + d.2)).shape? δ = w.shape? δ := by
          intro δ
          unfold World.shape?
          by_cases hδ : δ = γ
          · subst hδ; rw [hsame, hh]
          · rw [hne δ hδ]
        have hsize : (w.iterAt γ ⟨⟨s⟩⟩ (pos + d.2)).heap.size = w.heap.size := by simp [World.iterAt]
        have tr : Tr X ow S.toks w ow S.toks (w.iterAt γ ⟨⟨s⟩⟩ (pos + d.2)) := Tr.write (.inl ⟨b, hoβ⟩) hne hshape hsize rfl rfl rfl
        have hbl : b < S.mem.length := (List.getElem?_eq_some_iff.1 hb).1
        have m1 : MRel X ow { S with mem := S.mem.set b (.iter s (pos + d.2)) } (w.iterAt γ ⟨⟨s⟩⟩ (pos + d.2)) := by
          refine MRel.next (S' := { S with mem := S.mem.set b (.iter s (pos + d.2)) }) hM tr hM.inj (fun δ q h => by rw [hsize]; exact hM.bnd _ _ h) (fun δ q h => by simp; exact hM.memlt _ _ h) hM.toklt hM.locin (fun _ h => h) (by simp) ?_ ?_ ?_
          · intro c k h
            simp only [List.getElem?_set] at h
            split at h
            · rename_i hbc
              subst hbc
              cases h
              exact .inr ⟨hnd, γ, hoβ, hsame⟩
            · rename_i hbc
              exact .inl ⟨h, fun δ a => hne δ (by rintro rfl; rw [hoβ] at a; cases a; exact hbc rfl)⟩
          · intro d' cs' h
            exact .inl ⟨h, fun δ a => ⟨a, hne δ (by rintro rfl; rw [hoβ] at a; cases a)⟩⟩
          · intro t e z h
            exact .inl ⟨h, fun δ a => ⟨a, hne δ (by rintro rfl; rw [hoβ] at a; cases a)⟩⟩
        refine ⟨_, _, _, hrun, m1, tr, fun _ _ h _ => h, .inr (.p (tupR _ _ (by simp) (fun k x v a c => ?_)))⟩
        match k with
        | 0 => simp at a c; subst a; subst c; exact .bool _
        | 1 => simp at a c; subst a; subst c; exact .int _ _
        | 2 => simp at a c; subst a; subst c; exact .int _ _
        | k + 3 => simp at a
      · rename_i hp
        cases h
        refine OpOk.samef hM (Lib.run_next_end_at (P := P) w γ ⟨⟨s⟩⟩ pos ty hh (by rw [hsz]; exact hp)) (.p (tupR _ _ (by simp) (fun k x v a c => ?_)))
        match k with
        | 0 => simp at a c; subst a; subst c; exact .bool _
        | k + 1 => simp at a
    · cases h
  · cases h

/-! ### An empty cut that has no room -/
theorem ok_s00 (hM : MRel X ow S w) {t e : TypeId} (ht : P.underlying t = some (.slice e)) {ti : TypeInfo} (hi : P.info? e = some ti) {r : RV} {v : Value} {n : Nat} (hr : RRep (FX X ow S.toks) w ow S.toks r v) (h : lenA r = some n) {lo : Option Value} (hlo : lo = none ∨ lo = some (.int .i64 0)) :
    OpOk X ow S w ((Instr.sliceAt t v lo (some (.int .i64 0)) (some (.int .i64 0))).run P w) (.nsl false) S none := by
  have hf := hr.f (by unfold lenA at h; cases r <;> simp_all [RV.fc])
  obtain ⟨a, cap, rfl⟩ := slice_of_lenA hf h
  refine OpOk.samef hM (v := .slice a 0 0) ?_ (.nsl false a (by simp))
  rcases hlo with rfl | rfl <;> simp [Instr.sliceAt, Instr.slice, run_underlying ht, Instr.sliceBounds, run_sliceBound, run_sizeOf' hi]

/-! ### Structures of plain fields, compared -/
inductive SK where
  | b | i | s
  deriving Inhabited
def skOf (P : Program) (t : TypeId) : Option SK :=
  match P.underlying t with
  | some .bool => some .b
  | some (.int _) => some .i
  | some .string => some .s
  | _ => none
def flatFs (P : Program) : List Field → Nat → Option (List SK)
  | [], _ => some []
  | f :: fs, n => if f.name ≠ "_" ∧ f.offset = n then match skOf P f.type, flatFs P fs (n + 1) with
    | some k, some ks => some (k :: ks)
    | _, _ => none else none
def flatT (P : Program) (t : TypeId) : Option (List SK) :=
  match P.underlying t with
  | some (.struct fs) => if P.stoodInHeld t = false ∧ P.eqGuardType P.depth t = false then flatFs P fs.toList 0 else none
  | _ => none
def skEq : SK → PV → PV → Option Bool
  | .b, .bool a, .bool b => some (a == b)
  | .i, .int k a, .int k' b => if k = k' then some (decide (a = b)) else none
  | .s, .str a, .str b => some (decide (a = b))
  | _, _, _ => none
def skEqL : List SK → List PV → List PV → Option Bool
  | [], _, _ => some true
  | k :: ks, x :: xs, y :: ys => match skEq k x y with
    | some true => skEqL ks xs ys
    | some false => some false
    | none => none
  | _, _, _ => none
def onlyP : RV → Option PV
  | .p x => some x
  | _ => none
def aggOf : RV → Option (List PV)
  | .p (.agg cs) => some cs
  | .agg cs => mapO onlyP cs
  | _ => none
def eqA (neg : Bool) (ks : List SK) (a b : RV) : Option PV :=
  match aggOf a, aggOf b with
  | some xs, some ys => (skEqL ks xs ys).map fun c => .bool (if neg then !c else c)
  | _, _ => none
theorem mapO_at {α β : Type} {f : α → Option β} : ∀ {l : List α} {ys : List β}, mapO f l = some ys → ys.length = l.length ∧ ∀ (k : Nat) y, ys[k]? = some y → ∃ r, l[k]? = some r ∧ f r = some y
  | [], ys, h => by simp [mapO] at h; subst h; simp
  | a :: l, ys, h => by
    simp only [mapO] at h
    split at h
    · rename_i y zs hy hzs
      cases h
      obtain ⟨i1, i2⟩ := mapO_at hzs
      refine ⟨by simp [i1], fun k z hz => ?_⟩
      cases k with
      | zero => simp at hz; subst hz; exact ⟨a, rfl, hy⟩
      | succ k => exact i2 k z (by simpa using hz)
    · cases h
theorem aggOf_rep {F ow T} {r : RV} {v : Value} {cs : List PV} (h : FRep F w ow T r v) (ha : aggOf r = some cs) : ∃ vs, v = .agg vs ∧ vs.size = cs.length ∧ ∀ (k : Nat) x u, cs[k]? = some x → vs[k]? = some u → Rep F w x u := by
  unfold aggOf at ha
  split at ha
  · cases ha
    cases h with | p h => cases h with | agg cs vs hl h => exact ⟨vs, rfl, hl, h⟩
  · rename_i rs
    cases h with | agg rs vs hl h =>
    obtain ⟨h1, h2⟩ := mapO_at ha
    refine ⟨vs, rfl, by omega, fun k x u hx hu => ?_⟩
    obtain ⟨r, hr, he⟩ := h2 k x hx
    cases r <;> simp [onlyP] at he
    subst he
    have := h k _ u hr hu
    cases this with | p this => exact this
  · cases ha
theorem part_scalar {t : TypeId} {k : SK} (hk : skOf P t = some k) {vs : Array Value} {n : Nat} {v : Value} (hv : vs[n]? = some v) : (part t vs n).run P w = .ok v w := by
  unfold skOf at hk
  split at hk
  · rename_i hu; simp [part, isAgg, run_underlying hu, hv]
  · rename_i hu; simp [part, isAgg, run_underlying hu, hv]
  · rename_i hu; simp [part, isAgg, run_underlying hu, hv]
  · cases hk
theorem skEq_run {F} {t : TypeId} {k : SK} (hk : skOf P t = some k) {x y : PV} {u v : Value} (hx : Rep F w x u) (hy : Rep F w y v) {c : Bool} (h : skEq k x y = some c) (d : Nat) : (Op.equalIn (d + 1) t u v).run P w = .ok c w := by
  unfold skEq at h
  split at h
  · cases h
    cases hx; cases hy
    unfold skOf at hk
    split at hk
    · rename_i hu; exact run_equalIn_bool' w d t _ _ hu
    all_goals cases hk
  · rename_i q a q' b
    split at h
    · rename_i hq
      subst hq
      cases h
      cases hx; cases hy
      unfold skOf at hk
      split at hk
      · cases hk
      · rename_i hu
        have := run_equalIn_int w d t q _ a b hu
        rw [this]
        congr 1
      all_goals cases hk
    · cases h
  · rename_i a b
    cases h
    cases hx; cases hy
    unfold skOf at hk
    split at hk
    · cases hk
    · cases hk
    · rename_i hu
      rw [run_equalIn_string w d t ⟨⟨a⟩⟩ ⟨⟨b⟩⟩ hu, ByteArray.toList_eq, ByteArray.toList_eq]
      congr 1
      show (a == b) = decide (a = b)
      by_cases hab : a = b <;> simp [hab]
    · cases hk
  · cases h
theorem skEqL_run {F} (d : Nat) {us vs : Array Value} : ∀ (fs : List Field) (n : Nat) (ks : List SK) (xs ys : List PV), flatFs P fs n = some ks →
    (∀ (k : Nat) x, xs[k]? = some x → ∃ u, us[n + k]? = some u ∧ Rep F w x u) → (∀ (k : Nat) x, ys[k]? = some x → ∃ u, vs[n + k]? = some u ∧ Rep F w x u) → ∀ {c : Bool}, skEqL ks xs ys = some c →
    (Op.eqFields (d + 1) us vs fs).run P w = .ok c w
  | [], n, ks, xs, ys, hk, hx, hy, c, h => by
    simp only [flatFs, Option.some.injEq] at hk
    subst hk
    simp only [skEqL, Option.some.injEq] at h
    subst h
    rfl
  | f :: fs, n, ks, xs, ys, hk, hx, hy, c, h => by
    simp only [flatFs] at hk
    split at hk
    · rename_i hf
      obtain ⟨hf1, hf2⟩ := hf
      split at hk
      · rename_i k ks' e1 e2
        cases hk
        cases xs with
        | nil => simp [skEqL] at h
        | cons x xs =>
          cases ys with
          | nil => simp [skEqL] at h
          | cons y ys =>
            obtain ⟨u, hu, hxu⟩ := hx 0 x rfl
            obtain ⟨v, hv, hyv⟩ := hy 0 y rfl
            have hu : us[f.offset]? = some u := by rw [hf2]; exact hu
            have hv : vs[f.offset]? = some v := by rw [hf2]; exact hv
            have ih := skEqL_run (c := c) d fs (n + 1) ks' xs ys e2 (fun k x h => by
              obtain ⟨u, h1, h2⟩ := hx (k + 1) x (by simpa using h)
              exact ⟨u, by rw [← h1]; congr 1; omega, h2⟩) (fun k x h => by
              obtain ⟨u, h1, h2⟩ := hy (k + 1) x (by simpa using h)
              exact ⟨u, by rw [← h1]; congr 1; omega, h2⟩)
            simp only [skEqL] at h
            simp only [Op.eqFields, if_pos hf1, Sem.run_bind, part_scalar e1 hu, part_scalar e1 hv, Result.andThen_ok]
            split at h
            · rename_i hq
              rw [skEq_run e1 hxu hyv hq d]
              simp only [Result.andThen_ok, Bool.not_true, Bool.false_eq_true, if_false]
              exact ih h
            · rename_i hq
              rw [skEq_run e1 hxu hyv hq d]
              cases h
              simp only [Result.andThen_ok, Bool.not_false, if_true, Sem.run_pure]
            · cases h
      · cases hk
    · cases hk
theorem ok_eqs (hM : MRel X ow S w) {o : BinOp} {t : TypeId} {xo yo : Operand} {neg : Bool} (ho : o = if neg then .neq else .eql) {ks : List SK} (ht : flatT P t = some ks) {a b : RV} {u v : Value}
    (ha : RRep (FX X ow S.toks) w ow S.toks a u) (hb : RRep (FX X ow S.toks) w ow S.toks b v) {q : PV} (h : eqA neg ks a b = some q) :
    OpOk X ow S w ((do eqGuard o t xo yo u v; binOp o t u v : Sem Value).run P w) (.p q) S none := by
  unfold eqA at h
  split at h
  · rename_i xs ys h1 h2
    have fa : a.fc = true := by unfold aggOf at h1; cases a <;> simp_all [RV.fc]
    have fb : b.fc = true := by unfold aggOf at h2; cases b <;> simp_all [RV.fc]
    obtain ⟨us, rfl, k1, k2⟩ := aggOf_rep (ha.f fa) h1
    obtain ⟨vs, rfl, k3, k4⟩ := aggOf_rep (hb.f fb) h2
    rw [Option.map_eq_some_iff] at h
    obtain ⟨c, hc, rfl⟩ := h
    unfold flatT at ht
    split at ht
    · rename_i fs hu
      split at ht
      · rename_i hg
        have hfo : P.fieldsOf t = fs := by unfold Program.fieldsOf; rw [hu]
        have e := skEqL_run (P := P) (w := w) (F := FX X ow S.toks) 9998 (us := us) (vs := vs) fs.toList 0 ks xs ys ht (fun k x hx => by
          have hlt := (List.getElem?_eq_some_iff.1 hx).1
          exact ⟨us[k]'(by omega), by rw [Nat.zero_add]; exact Array.getElem?_eq_getElem (by omega), k2 k x _ hx (Array.getElem?_eq_getElem (by omega))⟩) (fun k x hx => by
          have hlt := (List.getElem?_eq_some_iff.1 hx).1
          exact ⟨vs[k]'(by omega), by rw [Nat.zero_add]; exact Array.getElem?_eq_getElem (by omega), k4 k x _ hx (Array.getElem?_eq_getElem (by omega))⟩) hc
        have e2 : (Op.equalIn 10000 t (.agg us) (.agg vs)).run P w = .ok c w := by
          rw [run_equalIn_struct w 9999 t us vs (by rw [hfo]; exact hu) hg.1, hfo]
          exact e
        refine OpOk.samef hM (v := .bool (if neg then !c else c)) ?_ (.p (.bool _))
        rw [Sem.run_bind, run_eqGuard_agg w o t xo yo us vs hg.2, Result.andThen_ok, ho]
        cases neg
        · rw [if_neg (by simp), run_eql_struct, e2]; rfl
        · rw [if_pos rfl, run_neq_struct, e2]; rfl
      · cases ht
    · cases ht
  · cases h

/-! ### The operations -/
inductive YOp where
  | appg (z ty bytes : Nat)
  | clr (z : Nat) (zc : List RV)
  | cpy (z : Nat)
  | rng | nxt | s00
  | eqs (neg : Bool) (ks : List SK)
  deriving Inhabited
def opY (o : YOp) (vals : List RV) (S : Mem) : Option (RV × Mem) :=
  match o, vals with
  | .appg z ty b, [r, x] => growA z ty b r x S
  | .clr z zc, [r] => clrA z zc r S
  | .cpy z, [r, x] => cpyA z r x S
  | .rng, [r] => rngA r S
  | .nxt, [r] => nxtA r S
  | .s00, [r] => match lenA r with
    | some _ => some (.nsl false, S)
    | none => none
  | .eqs neg ks, [a, b] => (eqA neg ks a b).map fun q => (.p q, S)
  | _, _ => none
def isZero : Operand → Bool
  | .const (.int .i64 0) => true
  | _ => false
def elemOf (P : Program) (t : TypeId) : Option (TypeId × TypeInfo × Value) :=
  match P.underlying t with
  | some (.slice e) => match P.info? e with
    | some ti => match ti.zero with
      | some z => if z.cells.size == ti.size && ti.size != 0 && ti.bytes != 0 then some (e, ti, z) else none
      | none => none
    | none => none
  | _ => none
theorem elemOf_spec {t e : TypeId} {ti : TypeInfo} {z : Value} (h : elemOf P t = some (e, ti, z)) : P.underlying t = some (.slice e) ∧ P.info? e = some ti ∧ ti.zero = some z ∧ z.cells.size = ti.size ∧ ti.size ≠ 0 ∧ ti.bytes ≠ 0 := by
  unfold elemOf at h
  split at h
  · rename_i e' hu
    split at h
    · rename_i ti' hi
      split at h
      · rename_i z' hz
        split at h
        · rename_i hc
          cases h
          simp only [Bool.and_eq_true, bne_iff_ne, ne_eq, beq_iff_eq] at hc
          exact ⟨hu, hi, hz, hc.1.1, hc.1.2, hc.2⟩
        · cases h
      · cases h
    · cases h
  · cases h
def zeroCut (lo : Option Operand) (h m : Operand) : Bool :=
  isZero h && isZero m && (match lo with | some l => isZero l | none => true)
/-- mems: the appends that make rows which may be written. -/
def trY (P : Program) (mems : List Nat) (o : Oper) : Option (YOp × List Operand) :=
  match o.op with
  | .call { callee := .builtin .append, args := args, argTypes := tys } => match args.toList, tys.toList with
    | [r, x], [t, u] => if mems.contains (o.dst.getD 0) && strOrSl (P.underlying u) then match elemOf P t with
      | some (e, ti, _) => some (.appg ti.size e ti.bytes, [r, x])
      | none => none
      else none
    | _, _ => none
  | .call { callee := .builtin .clear, args := args, argTypes := tys } => match args.toList, tys.toList with
    | [r], [t] => match elemOf P t with
      | some (_, ti, z) => some (.clr ti.size (zeroCells z), [r])
      | none => none
    | _, _ => none
  | .call { callee := .builtin .copy, args := args, argTypes := tys } => match args.toList, tys.toList with
    | [r, x], [t, _] => match elemOf P t with
      | some (_, ti, _) => some (.cpy ti.size, [r, x])
      | none => none
    | _, _ => none
  | .range t x => match P.underlying t with
    | some .string => some (.rng, [x])
    | _ => none
  | .next x true => some (.nxt, [x])
  | .slice t x lo (some h) (some m) => match zeroCut lo h m, elemOf P t with
      | true, some _ => some (.s00, [x])
      | _, _ => none
  | .binOp .eql t x y _ => match flatT P t with
      | some ks => some (.eqs false ks, [x, y])
      | none => none
  | .binOp .neq t x y _ => match flatT P t with
      | some ks => some (.eqs true ks, [x, y])
      | none => none
  | _ => none
def YOp.wr : YOp → Bool
  | .s00 | .eqs _ _ => false
  | _ => true
end
end Go.Ag
/- An abstract machine for Go functions, twelfth part: all operations. -/
namespace Go.Ag
open Go
set_option linter.unusedVariables false
set_option linter.unusedSimpArgs false

/-- An operation, its types looked up. -/
inductive IOp where
  | mv | pick
  | bin (o : BinOp) (tk : TK)
  | un (o : UnOp)
  | cint (k : IntKind) | i2s | b2s
  | build (zc : List RV) (pl : List (Nat × Nat)) (ix : List Nat)
  | bsl (z : Nat)
  | bslo (z ty : Nat)
  | fld (n : Option Nat) (off : Nat)
  | fa (off : Nat)
  | ia (z : Nat)
  | iaArr (len z : Nat)
  | ixs
  | ixA (len z : Nat) (n : Option Nat)
  | ext (i : Nat)
  | lenl | lens
  | ld (n : Option Nat)
  | st (n : Nat)
  | nilchk
  | allocL (d : Nat) (zc : List RV)
  | allocH (ty : Nat) (zc : List RV)
  | boxL (d : Nat)
  | boxH (ty : Nat)
  | sls (lo hi : Bool)
  | sll (z : Nat) (lo hi : Bool)
  | app (z ty bytes : Nat) (str : Bool)
  | mkfn (f : FuncId) (n1 : Nat)
  | mkif (t : TypeId)
  | mks (z ty bytes : Nat) (zc : List RV)
  | x (o : XOp)
  | y (o : YOp)
  | no
  deriving Inhabited

def oInt : RV → Option Int
  | .p (.int _ n) => some n
  | _ => none
/-- The bounds of a cut among the operands. -/
def cutArgs (lo hi : Bool) (l : List RV) : Option (Option Int × Option Int) :=
  match lo, hi, l with
  | false, false, [] => some (none, none)
  | true, false, [a] => (oInt a).map fun a => (some a, none)
  | false, true, [b] => (oInt b).map fun b => (none, some b)
  | true, true, [a, b] => match oInt a, oInt b with
    | some a, some b => some (some a, some b)
    | _, _ => none
  | _, _, _ => none

def oStr : RV → Option (List UInt8)
  | .p (.str s) => some s
  | _ => none
def oBool : RV → Option Bool
  | .p (.bool b) => some b
  | _ => none
def srcOf : RV → Option (List PV)
  | .p (.sl xs) => some xs
  | .own xs _ => some xs
  | .nsl _ => some []
  | _ => none

/-- Two pointers are compared only if what they point at is there. -/
def binOk (tk : TK) (r : RV) (S : Mem) : Bool :=
  match tk, r with
  | .ptr, .ptr b _ => match S.mem[b]? with
    | some (.cells _ _) => true
    | _ => false
  | _, _ => true
def isRs : RV → Bool
  | .rs _ _ _ _ => true
  | _ => false
def opA (o : IOp) (vals : List RV) (S : Mem) : Option (RV × Mem) :=
  match o, vals with
  | .mv, [x] => some (x, S)
  | .pick, [c, a, b] => (oBool c).map fun c => (if c then a else b, S)
  | .bin o tk, [a, b] => if binOk tk a S then (binA o tk a b).map fun x => (.p x, S) else none
  | .un o, [a] => (unA o a).map fun r => (r, S)
  | .cint k, [x] => (oInt x).map fun n => (.p (.int k (k.wrap n)), S)
  | .i2s, [x] => (oInt x).map fun n => (.p (.str (Utf8.encode n).data.toList), S)
  | .b2s, [x] => (rowOf x S).bind fun xs => (mapO toByte xs).map fun bs => (.p (.str bs), S)
  | .build zc pl ix, vs => (fillA pl zc (ix.zip vs)).map fun cs => (.agg cs, S)
  | .bsl z, vs => (RV.toPVs vs).bind fun xs => if uni z xs then some (.p (.sl xs), S) else none
  | .bslo z ty, vs => (RV.toPVs vs).bind fun xs => if uni z xs then some (.own xs S.toks.length, { S with toks := S.toks ++ [(xs.length, z, ty)] }) else none
  | .fld n off, [x] => (fldA n off x).map fun r => (r, S)
  | .fa off, [x] => (faA off x).map fun r => (r, S)
  | .ia z, [x, i] => (oInt i).bind fun i => (iaA z x i).map fun r => (r, S)
  | .iaArr len z, [x, i] => (oInt i).bind fun i => (iaArrA len z x i).map fun r => (r, S)
  | .ixs, [s, i] => (oStr s).bind fun s => (oInt i).bind fun i => (ixsA s i).map fun r => (r, S)
  | .ixA len z n, [x, i] => (oInt i).bind fun i => (ixA len z n x i).map fun r => (r, S)
  | .ext i, [x] => (extA i x).map fun r => (r, S)
  | .lenl, [x] => (lenA x).map fun (n : Nat) => (.p (.int .i64 (n : Int)), S)
  | .lens, [s] => (oStr s).map fun s => (.p (.int .i64 s.length), S)
  | .ld n, [x] => (ldA n x S).map fun r => (r, S)
  | .st n, [a, x] => (stA n a x S).map fun S' => (.top, S')
  | .nilchk, [x] => (nilA x).map fun r => (r, S)
  | .allocL d zc, [] => some (.la d 0, { S with loc := locSet S.loc d zc })
  | .allocH ty zc, [] => some (.ptr S.mem.length 0, { S with mem := S.mem ++ [.cells (2 * ty) zc] })
  | .boxL d, [x] => if x.solid then some (.la d 0, { S with loc := locSet S.loc d x.cells }) else none
  | .boxH ty, [x] => if x.solid then some (.ptr S.mem.length 0, { S with mem := S.mem ++ [.cells (2 * ty) x.cells] }) else none
  | .sls lo hi, x :: r => (oStr x).bind fun s => (cutArgs lo hi r).bind fun q => (cutB q.1 q.2 s.length).map fun x => (.p (.str (cutL s x.1 x.2)), S)
  | .sll z lo hi, x :: r => (cutArgs lo hi r).bind fun q => (sllA z x q.1 q.2).map fun r => (r, S)
  | .app z ty b false, [r, x] => if isRs r || isRs x then growA z ty b r x S else (srcOf x).bind fun xs => appA z ty b r xs S
  | .app z ty b true, [r, x] => if isRs r then growA z ty b r x S else (oStr x).bind fun s => appA z ty b r (s.map byteV) S
  | .mkfn f n1, vs => if vs.all RV.fc && decide (n1 ≤ vs.length) then some (.fn f (vs.take n1) (vs.drop n1), S) else none
  | .mkif t, [x] => if x.fc then some (.iface t x, S) else none
  | .x o, vs => opX o vs S
  | .y o, vs => opY o vs S
  | .mks z ty b zc, [l, c] => (oInt l).bind fun l => (oInt c).bind fun c => mksA z ty b zc l c S
  | _, _ => none

/-- What the look-up is told of a function: the variables that must lie in memory, the literals to which is appended. -/
structure Hint where
  heap : List Nat := []
  owns : List Nat := []
  mems : List Nat := []
  pure : Nat → Bool := fun _ => false
instance : Inhabited Hint := ⟨{}⟩

def opnd : Operand → Option Xp
  | .tmp t => some (.r t)
  | .const v => some (.k (ofValue 3 v))
  | .func f => some (.k (.p (.fn f [] [])))
  | .global _ => some (.k .top)
def tkOf (P : Program) (t : TypeId) (y : Operand) : TK :=
  match P.underlying t, y with
  | some .bool, _ => .bool
  | some (.pointer e), _ => if (P.info? e).isSome then .ptr else .num
  | some (.interface _), .const _ => .ifcc
  | some (.slice _), _ => .sl
  | _, _ => .num
def isIfc : Option TypeDesc → Bool
  | some (.interface _) | none => true
  | _ => false

def trOp (P : Program) (hn : Hint) (o : Oper) : Option (IOp × List Operand) :=
  match o.op with
  | .move x | .assign x => some (.mv, [x])
  | .pick c a b => some (.pick, [c, a, b])
  | .binOp op t x y _ => some (.bin op (tkOf P t y), [x, y])
  | .unOp op _ x => some (.un op, [x])
  | .convert s d x => match P.underlying s, P.underlying d with
    | some (.int _), some (.int k) => some (.cint k, [x])
    | some (.int _), some .string => some (.i2s, [x])
    | some (.slice e), some .string => match P.underlying e with
      | some (.int .u8) => some (.b2s, [x])
      | _ => none
    | _, _ => none
  | .build t parts => match buildKind P t with
    | some (z, pl) => some (.build (zeroCells z) pl (parts.toList.map (·.1)), parts.toList.map (·.2))
    | none => none
  | .buildSlice t len parts => match P.underlying t with
    | some (.slice e) => match P.info? e with
      | some ti => if ti.zero.isSome && ti.size != 0 && len != 0 && decide (len * ti.size ≤ 16777216) && parts.toList.length == len && parts.toList.map (·.1) == List.range len && !hn.mems.contains (o.dst.getD 0) then
          some (if hn.owns.contains (o.dst.getD 0) then .bslo ti.size e else .bsl ti.size, parts.toList.map (·.2)) else none
      | none => none
    | _ => none
  | .field t x i => match P.underlying t with
    | some (.struct fs) => match fs[i]? with
      | some f => (ldKind P f.type).map fun n => (.fld n f.offset, [x])
      | none => none
    | _ => none
  | .fieldAddr t x i => match P.underlying t with
    | some (.struct fs) => match fs[i]? with
      | some f => match P.info? f.type with
        | some ti => if ti.size != 0 then some (.fa f.offset, [x]) else none
        | none => none
      | none => none
    | _ => none
  | .indexAddr t x i => match P.underlying t with
    | some (.slice e) => (P.info? e).map fun ti => (.ia ti.size, [x, i])
    | some (.array len e) => (P.info? e).map fun ti => (.iaArr len ti.size, [x, i])
    | _ => none
  | .index t x i => match P.underlying t with
    | some .string => some (.ixs, [x, i])
    | some (.array len e) => match P.info? e, ldKind P e with
      | some ti, some n => some (.ixA len ti.size n, [x, i])
      | _, _ => none
    | _ => none
  | .extract x i => some (.ext i, [x])
  | .load t a => (ldKind P t).map fun n => (.ld n, [a])
  | .store t a x => (P.info? t).map fun ti => (.st ti.size, [a, x])
  | .nilCheck x => some (.nilchk, [x])
  | .alloc e => match P.info? e with
    | some ti => match ti.zero, o.dst with
      | some z, some d => some (if hn.heap.contains d then .allocH e (zeroCells z) else .allocL d (zeroCells z), [])
      | _, _ => none
    | none => none
  | .box e x => match o.dst with
    | some d => some (if hn.heap.contains d then .boxH e else .boxL d, [x])
    | none => none
  | .slice t x lo hi none => match P.underlying t with
    | some .string => some (.sls lo.isSome hi.isSome, [x] ++ lo.toList ++ hi.toList)
    | some (.slice e) => (P.info? e).map fun ti => (.sll ti.size lo.isSome hi.isSome, [x] ++ lo.toList ++ hi.toList)
    | _ => none
  | .makeFunc (.func f) a b => some (.mkfn f a.size, a.toList ++ b.toList)
  | .makeInterface t x => if isIfc (P.underlying t) then none else some (.mkif t, [x])
  | .makeSlice t l c => match P.underlying t with
    | some (.slice e) => match P.info? e with
      | some ti => match ti.zero with
        | some z => if z.cells.size == ti.size && ti.size != 0 && ti.bytes != 0 then some (.mks ti.size e ti.bytes (zeroCells z), [l, c]) else none
        | none => none
      | none => none
    | _ => none
  | .call { callee := .builtin .len, args := args, argTypes := tys } => match args.toList, tys.toList with
    | [x], [t] => match P.underlying t with
      | some .string => some (.lens, [x])
      | some (.slice _) => some (.lenl, [x])
      | _ => none
    | _, _ => none
  | .call { callee := .builtin .append, args := args, argTypes := tys } => match args.toList, tys.toList with
    | [r, x], [t, u] => match P.underlying t with
      | some (.slice e) => match P.info? e with
        | some ti => match ti.zero with
          | some z => if z.cells.size == ti.size && ti.size != 0 && ti.bytes != 0 then
              match P.underlying u with
              | some .string => if ti.size == 1 then some (.app ti.size e ti.bytes true, [r, x]) else none
              | some (.slice _) => some (.app ti.size e ti.bytes false, [r, x])
              | _ => none
            else none
          | none => none
        | none => none
      | _ => none
    | _, _ => none
  | _ => none

section
variable {P : Program} {X : Cells} {ow : Ow} {S : Mem} {w : World}

/-- What a step on an operation comes to. -/
def StepOk (X : Cells) (ow : Ow) (S : Mem) (w : World) (res : Result Next) (r : RV) (S' : Mem) (D : Option Nat) : Prop :=
  ∃ n v ow' w', res = .ok n w' ∧ (n = .value v ∨ (n = .skip ∧ v = undef)) ∧ MRel X ow' S' w' ∧ Tr X ow S.toks w ow' S'.toks w' ∧
    (∀ β d, ow β = some (.loc d) → some d ≠ D → ow' β = some (.loc d)) ∧ RRep (FX X ow' S'.toks) w' ow' S'.toks r v

theorem StepOk.val {s : Sem Value} {r S' D} (h : OpOk X ow S w (s.run P w) r S' D) : StepOk X ow S w ((do pure (Next.value (← s)) : Sem Next).run P w) r S' D := by
  obtain ⟨v, ow', w', h1, h2, h3, h4, h5⟩ := h
  exact ⟨.value v, v, ow', w', by simp [h1], .inl rfl, h2, h3, h4, h5⟩
theorem StepOk.weaken {res r S' D} (h : StepOk X ow S w res r S' none) : StepOk X ow S w res r S' D := by
  obtain ⟨n, v, ow', w', h1, h2, h3, h4, h5, h6⟩ := h
  exact ⟨n, v, ow', w', h1, h2, h3, h4, fun β d a _ => h5 β d a (by simp), h6⟩

/-- The variable that an operation makes anew. -/
def IOp.dropped : IOp → Option Nat
  | .allocL d _ | .boxL d => some d
  | _ => none

theorem opnd_rep {F T} {env : Env} {a : Act} (he : ∀ t, RRep F w ow T (env.get t) (a.tmps.getD t undef)) {x : Operand} {xp : Xp} (h : opnd x = some xp) : RRep F w ow T (xp.ev env) (a.eval x) := by
  cases x with
  | tmp t => simp [opnd] at h; subst h; exact he t
  | const v => simp [opnd] at h; subst h; exact .inr (ofValue_rep 3 v)
  | func f => simp [opnd] at h; subst h; exact .inr (.p (.fn f [] [] #[] #[] rfl rfl (by simp) (by simp)))
  | global g => simp [opnd] at h; subst h; exact .inr (.top _)
end
end Go.Ag
