/- Several texts of one proof in one file, one after another, each with its own head: the machine's side of a law and the plain side; conditions: those of each theorem. -/
import Derived.Test.YtkfnogdkfedaaaaGreatDoorMHealthIsByItself2
import Derived.Sort.Grow
import Derived.Sort.EncStr
import Derived.Below
import Derived.SizedLaws
import Derived.ChangeSlices
import Derived.Test.YtkfnogdkfedaaaaGreatDoorCards
import Derived.Test.YtkfnogdkfedaaaaGreatDoorTie
import Derived.WalkKit
import Derived.ProofKit
import Derived.OpenShut
import Derived.ShutString
import Derived.ChangeOld
import Derived.LaidMore
import Derived.Lay
import Derived.SevenTiedAt
import Derived.Stop.Joined
set_option linter.unusedVariables false
set_option linter.unusedSimpArgs false
/- PricesGrow: the stream's choices; small functions. -/
namespace Go.Ag
open Go
set_option linter.unusedVariables false
set_option linter.unusedSimpArgs false
set_option maxRecDepth 100000

theorem pf_evP {f : FuncId} {args : List PV} {rv : RV} {r : PV} (h : evFn tabP.find (fun _ _ _ => none) 200 20 f (args.map .p) mem0 = some (rv, mem0)) (hr : rv.still mem0 = some r) : PFun PG f args r := by
  refine (evFn_sound mix (BT.ok tabP tabP_ok) callOk_none 200 20 f _ mem0 _ _ rfl h).mono ?_
  rintro r' S'' ⟨rfl, rfl⟩
  exact hr
abbrev strs (xs : List (List UInt8)) : List PV := xs.map PV.str
def nine : List (List UInt8) := [[97], [97, 58, 42], [97, 58, 98], [97, 58, 98, 58, 42], [97, 58, 98, 58, 99], [98], [98, 58, 42], [98, 58, 99], [42]]
def kMaps : List UInt8 := [109, 97, 112, 115]
def kShop : List UInt8 := [115, 104, 111, 112]
def kOrders : List UInt8 := [111, 114, 100, 101, 114, 115]
theorem isScope_pf (s : List UInt8) (h : s ∈ kOrders :: nine) : PFun PG 150 [.str s] (.bool true) := by
  simp only [nine, kOrders, List.mem_cons, List.not_mem_nil, or_false] at h
  rcases h with rfl | rfl | rfl | rfl | rfl | rfl | rfl | rfl | rfl | rfl
  all_goals exact pf_evP (rv := .p (.bool true)) (by kernel_rfl) rfl

theorem some_sc (l : List Int) (a : Int) (rest : List Blk) (T : List (Nat × Nat × Nat)) (xs : List (List UInt8)) (hl : l.length ≤ 140737488355328) (h0 : 0 ≤ a) (h1 : a < 1000000000) (hx : 1 ≤ xs.length) (hx2 : xs.length ≤ 1000) :
    SC PG 18 [.ptr 0 0, .p (.sl (strs xs))] (stm l a rest T) fun r S' => ∃ v ∈ xs, r = .p (.str v) ∧ S' = stm l (a + 1) rest T := by
  have hlen : ((strs xs).length : Int) = xs.length := by simp
  refine walk_18 rfl (by simp) ?_
  constructor
  refine CallM.of rfl (next_sc l a _ rest T hl h0 h1 (by omega) (by omega)) ?_
  rintro r S' ⟨v, hv, rfl, rfl⟩
  constructor
  refine Elt.map hv.1 (by omega) fun x hx => ⟨rfl, ?_⟩
  constructor
  exact ⟨_, List.mem_of_getElem? hx, rfl, rfl⟩
theorem pick_sc (l : List Int) (a : Int) (rest : List Blk) (T : List (Nat × Nat × Nat)) (xs : List Int) (hl : l.length ≤ 140737488355328) (h0 : 0 ≤ a) (h1 : a < 1000000000) (hx : 1 ≤ xs.length) (hx2 : xs.length ≤ 1000) :
    SC PG 51 [.ptr 0 0, .p (ints xs)] (stm l a rest T) fun r S' => ∃ v ∈ xs, r = vi v ∧ S' = stm l (a + 1) rest T := by
  have hlen : ((xs.map (PV.int .i64)).length : Int) = xs.length := by simp
  refine walk_51 rfl (by simp) ?_
  constructor
  refine CallM.of rfl (next_sc l a _ rest T hl h0 h1 (by omega) (by omega)) ?_
  rintro r S' ⟨v, hv, rfl, rfl⟩
  constructor
  refine Elt.map hv.1 (by omega) fun x hx => ⟨rfl, ?_⟩
  constructor
  exact ⟨_, List.mem_of_getElem? hx, rfl, rfl⟩
theorem flip_sc (l : List Int) (a n : Int) (rest : List Blk) (T : List (Nat × Nat × Nat)) (hl : l.length ≤ 140737488355328) (h0 : 0 ≤ a) (h1 : a < 1000000000) (hn : 1 ≤ n) (hn2 : n ≤ 1000) :
    SC PG 12 [.ptr 0 0, vi n] (stm l a rest T) fun r S' => (r = vb true ∨ r = vb false) ∧ S' = stm l (a + 1) rest T := by
  refine walk_12 rfl (by simp) ?_
  constructor
  refine CallM.of rfl (next_sc l a _ rest T hl h0 h1 hn (by omega)) ?_
  rintro r S' ⟨v, hv, rfl, rfl⟩
  constructor
  refine ⟨fun h => ?_, fun h => ?_⟩
  · constructor; exact ⟨.inl rfl, rfl⟩
  · constructor; exact ⟨.inr rfl, rfl⟩

theorem stm_eq {l : List Int} {a a' : Int} {rest : List Blk} {T : Toks} (h : a = a') : stm l a rest T = stm l a' rest T := by rw [h]
theorem rsc_sc (l : List Int) (a : Int) (rest : List Blk) (T : Toks) (hl : l.length ≤ 140737488355328) (h0 : 0 ≤ a) (h1 : a < 900000000) :
    SC PG 28 [.ptr 0 0] (stm l a rest T) fun r S' => ∃ sc a' T', ((∀ s ∈ sc, s ∈ nine) ∧ sc.length ≤ 4) ∧ (a ≤ a' ∧ a' ≤ a + 5) ∧ Ext T T' ∧ Row T 1 9 (strs sc) T' r ∧ S' = stm l a' rest T' := by
  refine walk_28 rfl (by simp) ?_
  constructor
  refine CallM.of rfl (range_sc l a 0 4 rest T hl h0 (by omega) (by omega) (by omega) (by omega)) ?_
  rintro r S' ⟨n, hn, rfl, rfl⟩
  constructor
  refine LoopF.of (fun s : List (List UInt8) × RV × Toks => ([(0, .ptr 0 0), (3, s.2.1), (5, vi n), (6, vi s.1.length)], stm l (a + 1 + s.1.length) rest s.2.2)) (fun s => 4 - s.1.length) (fun s => (∀ x ∈ s.1, x ∈ nine) ∧ (s.1.length : Int) ≤ n ∧ Row T 1 9 (strs s.1) s.2.2 s.2.1 ∧ Ext T s.2.2) ([], .nsl true, T) ⟨by simp, by simp; omega, Row.nil, Ext.refl T⟩ rfl (stm_eq (by simp)) ?_
  rintro ⟨s, q, T1⟩ ⟨hs, hsn, hr, hx⟩
  simp only at hs hsn hr hx
  have hr2 := hr
  rcases hr with ⟨rfl, he⟩ | ⟨t, rfl, ht⟩
  all_goals
    constructor
    refine ⟨fun h2 => ?_, fun h2 => ?_⟩
    · have h2 : (s.length : Int) < n := h2
      constructor
      refine CallM.of rfl (some_sc l (a + 1 + s.length) rest _ nine hl (by omega) (by omega) (by decide) (by decide)) ?_
      rintro r S' ⟨v, hv, rfl, rfl⟩
      obtain ⟨t', T', k1, k2, k3⟩ := hr2.app (y := .str v) (b := 16) hx rfl (by simp [lim]; omega)
      constructor
      refine Opr.of (k1 _ rfl) ?_
      constructor
      refine ⟨by unfold inR; omega, ?_⟩
      refine ⟨(s ++ [v], .own (strs s ++ [.str v]) t', T'), ⟨?_, ?_, ?_, k3⟩, ?_, ?_, ?_⟩
      · intro x hx; simp at hx; rcases hx with h | rfl
        · exact hs x h
        · exact hv
      · simp; omega
      · simpa using k2
      · simp only [List.length_append, List.length_cons, List.length_nil]; omega
      · simp; rfl
      · exact stm_eq (by simp; omega)
    · constructor
      exact ⟨s, a + 1 + s.length, T1, ⟨hs, by omega⟩, ⟨by omega, by omega⟩, hx, hr2, rfl⟩

/-- A plan. -/
structure Pl where
  key : List UInt8
  prod : List UInt8
  base : Int
  free : Int
  tiers : List (Int × Int)
  limit : Int
  trial : Int
  asked : Bool
def tpv (t : Int × Int) : PV := .agg [.int .i64 t.1, .int .i64 t.2]
def Pl.cs (p : Pl) : List PV := [.str p.key, .str p.prod, .int .i64 p.base, .int .i64 p.free, .sl (p.tiers.map tpv), .int .i64 p.limit, .int .i64 p.trial, .bool p.asked]
def Pl.pv (p : Pl) : PV := .agg p.cs
/-- Tiers rise. -/
def Rise : Int → List (Int × Int) → Prop
  | _, [] => True
  | b, t :: r => b < t.1 ∧ t.1 ≤ 1000 ∧ 0 ≤ t.2 ∧ t.2 ≤ 1500 ∧ Rise t.1 r
structure Pl.ok (p : Pl) : Prop where
  prod : p.prod = kShop ∨ p.prod = kMaps
  base : 0 ≤ p.base ∧ p.base ≤ 3000
  free : 0 ≤ p.free ∧ p.free ≤ 100
  limit : -1 ≤ p.limit ∧ p.limit ≤ 1000
  trial : 0 ≤ p.trial ∧ p.trial ≤ 2
  few : p.tiers.length ≤ 3
  rise : Rise 0 p.tiers
  first : ∀ t ∈ p.tiers.head?, t.1 = 1
def prods (sc : List (List UInt8)) : PV := .sl [.agg [.str kMaps, .sl (strs sc)], .agg [.str kShop, .sl [.str kOrders]]]
def cat (sc : List (List UInt8)) (ps : List Pl) : PV := .agg [prods sc, .sl (ps.map Pl.pv)]
def four : List (List UInt8) := [[98, 105, 103], [102, 114, 101, 101], [109, 105, 100], [115, 109, 97, 108, 108]]
structure CatOk (sc : List (List UInt8)) (ps : List Pl) : Prop where
  hsc : (∀ s ∈ sc, s ∈ nine) ∧ sc.length ≤ 4
  hps : ∀ p ∈ ps, p.ok
  hkeys : (ps.map Pl.key).Sublist four
theorem key_pf (s : List UInt8) (h : s ∈ kMaps :: kShop :: four) : PFun PG 155 [.str s] (.bool true) := by
  simp only [four, kMaps, kShop, List.mem_cons, List.not_mem_nil, or_false] at h
  rcases h with rfl | rfl | rfl | rfl | rfl | rfl
  all_goals exact pf_evP (rv := .p (.bool true)) (by kernel_rfl) rfl
theorem scopes_pf (sc : List (List UInt8)) (h : ∀ s ∈ sc, s ∈ kOrders :: nine) (hl : sc.length ≤ 50) : PFun PG 89 [.sl (strs sc)] (.int .i64 0) := by
  have hlen : ((strs sc).length : Int) = sc.length := by simp
  refine walk_89 rfl (by simp) ?_
  constructor
  refine Cmp.no (by omega) ?_
  constructor
  refine LoopF.of (fun i : Nat => ([(8, .p (.sl (strs sc))), (9, vi (strs sc).length), (10, vi i)], mem0)) (fun i => sc.length - i) (fun i => i ≤ sc.length) 0 (Nat.zero_le _) rfl rfl ?_
  intro i hi
  constructor
  refine ⟨fun h1 => ?_, fun h1 => ?_⟩
  · rw [hlen] at h1
    constructor
    refine Elt.map (by omega) (by omega) fun x hx => ⟨rfl, ?_⟩
    constructor
    refine CallV.of (isScope_pf x (h x (List.mem_of_getElem? hx))) ?_
    constructor
    refine ⟨by unfold inR; omega, ?_⟩
    exact ⟨i + 1, by omega, by omega, rfl, rfl⟩
  · constructor
    exact ⟨rfl⟩
theorem prodAt_shop (X Y Z : PV) : PFun PG 108 [.agg [.sl [.agg [.str kMaps, X], .agg [.str kShop, Y]], Z], .str kShop] (.tup [.int .i64 1, .bool true]) :=
  pf_evP (rv := .tup [.p (.int .i64 1), .p (.bool true)]) (by kernel_rfl) rfl
theorem prodAt_maps (X Y Z : PV) : PFun PG 108 [.agg [.sl [.agg [.str kMaps, X], .agg [.str kShop, Y]], Z], .str kMaps] (.tup [.int .i64 0, .bool true]) :=
  pf_evP (rv := .tup [.p (.int .i64 0), .p (.bool true)]) (by kernel_rfl) rfl
theorem prods_pf (sc : List (List UInt8)) (h : (∀ s ∈ sc, s ∈ nine) ∧ sc.length ≤ 4) : PFun PG 166 [prods sc] (.int .i64 0) := by
  refine walk_166 rfl (by simp) ?_
  constructor
  refine Cmp.no (by simp) ?_
  constructor
  refine LoopF.of (fun i : Nat => ([(0, .p (prods sc)), (9, .p (prods sc)), (10, vi 2), (11, vi i)], mem0)) (fun i => 2 - i) (fun i => i ≤ 2) 0 (by omega) rfl rfl ?_
  intro i hi
  rcases (by omega : i = 0 ∨ i = 1 ∨ i = 2) with rfl | rfl | rfl
  · constructor
    refine Cmp.yes (by simp) ?_
    constructor
    refine Elt.mk' (by simp) rfl ⟨rfl, ?_⟩
    constructor
    refine CallV.of (key_pf kMaps (by decide)) ?_
    constructor
    refine Cmp.no (by simp) ?_
    constructor
    refine CallV.of (scopes_pf sc (fun s hs => List.mem_cons_of_mem _ (h.1 s hs)) (by omega)) ?_
    constructor
    refine Cmp.yes rfl ?_
    constructor
    refine ⟨by unfold inR; simp, ?_⟩
    exact ⟨1, by omega, by omega, rfl, rfl⟩
  · constructor
    refine Cmp.yes (by simp) ?_
    constructor
    refine Elt.mk' (by simp) rfl ⟨rfl, ?_⟩
    constructor
    refine CallV.of (key_pf kShop (by decide)) ?_
    constructor
    refine Cmp.yes (by simp) ?_
    constructor
    refine ⟨by unfold inR; simp, ?_⟩
    constructor
    refine Elt.mk' (by simp) rfl ⟨rfl, ?_⟩
    constructor
    refine Opr.of (r := .p (.bool false)) rfl ?_
    constructor
    refine CallV.of (scopes_pf [kOrders] (by simp) (by simp)) ?_
    constructor
    refine Cmp.yes rfl ?_
    constructor
    refine ⟨by unfold inR; simp, ?_⟩
    exact ⟨2, by omega, by omega, rfl, rfl⟩
  · constructor
    refine Cmp.no (by simp) ?_
    constructor
    exact ⟨rfl⟩
end Go.Ag
/- HealthIsByItself: probes and turns, in plain words. -/
namespace Go.Ag
open Go
set_option linter.unusedVariables false
set_option linter.unusedSimpArgs false

/-- An instance, a probe, a turn. -/
structure In where
  key : List UInt8
  w : Int
structure Pb where
  t : Int
  inst : List UInt8
  good : Bool
structure Tn where
  t : Int
  inst : List UInt8
  up : Bool
def In.pv (x : In) : PV := .agg [.str x.key, .int .i64 x.w]
def Pb.pv (b : Pb) : PV := .agg [.int .i64 b.t, .str b.inst, .bool b.good]
def Tn.pv (n : Tn) : PV := .agg [.int .i64 n.t, .str n.inst, .bool n.up]
/-- How an instance is: down, and how many probes in a row speak against it. -/
abbrev Hs := Bool × Int
def most (rise fall : Int) (d : Bool) : Int := if d = true then rise else fall
def probe1 (rise fall : Int) (s : Hs) (good : Bool) : Bool × Hs :=
  if good = s.1 then (if s.2 + 1 < most rise fall s.1 then (false, (s.1, s.2 + 1)) else (true, (!s.1, 0))) else (false, (s.1, 0))
def stepT (pos : List UInt8 → Nat) (rise fall : Int) (st : List Tn × List Hs) (b : Pb) : List Tn × List Hs :=
  let r := probe1 rise fall (st.2.getD (pos b.inst) (false, 0)) b.good
  (if r.1 = true then st.1 ++ [⟨b.t, b.inst, !r.2.1⟩] else st.1, st.2.set (pos b.inst) r.2)
def runT (pos : List UInt8 → Nat) (n : Nat) (rise fall : Int) (p : List Pb) : List Tn × List Hs := p.foldl (stepT pos rise fall) ([], List.replicate n (false, 0))
/-- .. of one instance by itself. -/
def step1 (rise fall : Int) (st : List Tn × Hs) (b : Pb) : List Tn × Hs :=
  let r := probe1 rise fall st.2 b.good
  (if r.1 = true then st.1 ++ [⟨b.t, b.inst, !r.2.1⟩] else st.1, r.2)
def run1 (rise fall : Int) (p : List Pb) : List Tn × Hs := p.foldl (step1 rise fall) ([], (false, 0))
def ofP (k : List UInt8) (b : Pb) : Bool := decide (b.inst = k)
def ofT (k : List UInt8) (n : Tn) : Bool := decide (n.inst = k)

theorem filter_of {k : List UInt8} {b : Pb} {up : Bool} {l : List Tn} : (l ++ [(⟨b.t, b.inst, up⟩ : Tn)]).filter (ofT k) = if ofP k b = true then l.filter (ofT k) ++ [⟨b.t, b.inst, up⟩] else l.filter (ofT k) := by
  rw [List.filter_append]
  by_cases h : b.inst = k
  · simp [ofP, ofT, h]
  · simp [ofP, ofT, h]
theorem one_aux (pos : List UInt8 → Nat) (rise fall : Int) (k : List UInt8) : ∀ (p : List Pb) (st : List Tn × List Hs) (s1 : List Tn × Hs), pos k < st.2.length → (∀ b ∈ p, b.inst ≠ k → pos b.inst ≠ pos k) →
    st.1.filter (ofT k) = s1.1 → st.2.getD (pos k) (false, 0) = s1.2 →
    ((p.foldl (stepT pos rise fall) st).1.filter (ofT k)) = ((p.filter (ofP k)).foldl (step1 rise fall) s1).1
  | [], st, s1, hl, hp, h1, h2 => h1
  | b :: p, st, s1, hl, hp, h1, h2 => by
    by_cases hk : b.inst = k
    · have e : (b :: p).filter (ofP k) = b :: p.filter (ofP k) := by simp [ofP, hk]
      rw [e, List.foldl_cons, List.foldl_cons]
      refine one_aux pos rise fall k p _ _ (by simp only [stepT, List.length_set]; exact hl) (fun b hb => hp b (by simp [hb])) ?_ ?_
      · simp only [stepT, step1]
        rw [hk, h2]
        split
        · rename_i hr
          have := filter_of (k := k) (b := b) (up := !(probe1 rise fall s1.2 b.good).2.1) (l := st.1)
          rw [hk] at this
          rw [this, if_pos (by simp [ofP, hk]), h1]
        · exact h1
      · simp only [stepT, step1]
        rw [hk, h2, List.getD_eq_getElem?_getD, List.getElem?_set_self hl]
        rfl
    · have e : (b :: p).filter (ofP k) = p.filter (ofP k) := by simp [ofP, hk]
      rw [e, List.foldl_cons]
      refine one_aux pos rise fall k p _ _ (by simp only [stepT, List.length_set]; exact hl) (fun b hb => hp b (by simp [hb])) ?_ ?_
      · simp only [stepT]
        split
        · rw [filter_of, if_neg (by simp [ofP, hk]), h1]
        · exact h1
      · simp only [stepT]
        rw [List.getD_eq_getElem?_getD, List.getElem?_set_ne (hp b (by simp) hk), ← List.getD_eq_getElem?_getD, h2]
theorem runT_one {pos : List UInt8 → Nat} {n : Nat} {k : List UInt8} (rise fall : Int) {p : List Pb} (hk : pos k < n) (hp : ∀ b ∈ p, b.inst ≠ k → pos b.inst ≠ pos k) :
    (runT pos n rise fall p).1.filter (ofT k) = (run1 rise fall (p.filter (ofP k))).1 :=
  one_aux pos rise fall k p _ _ (by simpa using hk) hp rfl (by simp [List.getD_eq_getElem?_getD, hk])
theorem runT_of (pos : List UInt8 → Nat) (rise fall : Int) (k : List UInt8) : ∀ (p : List Pb) (st : List Tn × List Hs), (∀ n ∈ st.1, n.inst = k) → (∀ b ∈ p, b.inst = k) → ∀ n ∈ (p.foldl (stepT pos rise fall) st).1, n.inst = k
  | [], st, h, _ => h
  | b :: p, st, h, hp => by
    refine runT_of pos rise fall k p _ ?_ (fun b hb => hp b (by simp [hb]))
    simp only [stepT]
    split
    · intro n hn
      rcases List.mem_append.1 hn with hn | hn
      · exact h n hn
      · rw [List.mem_singleton.1 hn]
        exact hp b (by simp)
    · exact h
/-- The probes of one instance lead to the turns of this instance. -/
theorem runT_mine {pos : List UInt8 → Nat} {n : Nat} {k : List UInt8} (rise fall : Int) {p : List Pb} (hk : pos k < n) (hp : ∀ b ∈ p, b.inst ≠ k → pos b.inst ≠ pos k) :
    (runT pos n rise fall (p.filter (ofP k))).1 = (runT pos n rise fall p).1.filter (ofT k) := by
  rw [runT_one rise fall hk hp]
  have h1 := runT_one (pos := pos) (n := n) (k := k) rise fall (p := p.filter (ofP k)) hk (fun b hb => hp b (List.mem_filter.1 hb).1)
  rw [List.filter_filter] at h1
  simp only [Bool.and_self] at h1
  rw [← h1]
  refine (List.filter_eq_self.2 fun n hn => ?_).symm
  have := runT_of pos rise fall k (p.filter (ofP k)) ([], List.replicate _ (false, 0)) (by simp) (fun b hb => by simpa [ofP] using (List.mem_filter.1 hb).2) n hn
  simpa [ofT] using this
/-- Turns go down and up by turns. -/
theorem run1_aux (rise fall : Int) : ∀ (p : List Pb) (st : List Tn × Hs), st.2.1 = decide (st.1.length % 2 = 1) → (∀ (i : Nat) n, st.1[i]? = some n → n.up = decide (i % 2 = 1)) →
    ∀ (i : Nat) n, (p.foldl (step1 rise fall) st).1[i]? = some n → n.up = decide (i % 2 = 1)
  | [], st, _, h => h
  | b :: p, st, hd, h => by
    refine run1_aux rise fall p _ ?_ ?_
    · simp only [step1, probe1]
      split
      · split
        · exact hd
        · simp only [if_true, List.length_append, List.length_cons, List.length_nil]
          rw [hd]
          by_cases h2 : st.1.length % 2 = 1
          · rw [decide_eq_true h2, decide_eq_false (by omega)]; rfl
          · rw [decide_eq_false h2, decide_eq_true (by omega)]; rfl
      · exact hd
    · simp only [step1]
      split
      · rename_i hr
        intro i n hn
        by_cases hi : i < st.1.length
        · rw [List.getElem?_append_left hi] at hn
          exact h i n hn
        · rw [List.getElem?_append_right (by omega)] at hn
          have h0 : i - st.1.length = 0 := by
            have := (List.getElem?_eq_some_iff.1 hn).1
            simp at this
            omega
          rw [h0] at hn
          cases hn
          have hi2 : i = st.1.length := by omega
          subst hi2
          rw [← hd]
          simp only [probe1] at hr ⊢
          split at hr
          · rename_i hg
            rw [if_pos hg]
            split at hr
            · cases hr
            · rename_i hlt
              rw [if_neg hlt]
              simp
          · cases hr
      · exact h
theorem run1_alt (rise fall : Int) (p : List Pb) (i : Nat) (n : Tn) (h : (run1 rise fall p).1[i]? = some n) : n.up = decide (i % 2 = 1) :=
  run1_aux rise fall p ([], (false, 0)) rfl (by simp) i n h

/-! ### Probes that are right -/
def okT (t : Int) : Prop := 0 ≤ t ∧ t < 345686400000
instance (t : Int) : Decidable (okT t) := by unfold okT; infer_instance
/-- The first error of probes, of which the first stands behind one at that moment. -/
def cpL (keys : List (List UInt8)) : Option Int → List Pb → Int
  | _, [] => 0
  | prev, b :: r => if okT b.t then (if b.inst ∈ keys then (if (match prev with | some t => decide (b.t < t) | none => false) = true then 7 else cpL keys (some b.t) r) else 8) else 1
theorem cpL_iff (keys : List (List UInt8)) : ∀ (p : List Pb) (prev : Option Int), cpL keys prev p = 0 ↔ (∀ b ∈ p, okT b.t ∧ b.inst ∈ keys) ∧ p.Pairwise (fun a b => a.t ≤ b.t) ∧ ∀ t, prev = some t → ∀ b ∈ p, t ≤ b.t
  | [], prev => by simp [cpL]
  | b :: r, prev => by
    have ih := cpL_iff keys r (some b.t)
    simp only [cpL]
    by_cases h1 : okT b.t
    · rw [if_pos h1]
      by_cases h2 : b.inst ∈ keys
      · rw [if_pos h2]
        cases prev with
        | none =>
          simp only [Bool.false_eq_true, if_false]
          rw [ih]
          constructor
          · rintro ⟨k1, k2, k3⟩
            exact ⟨fun c hc => by rcases List.mem_cons.1 hc with rfl | hc; exact ⟨h1, h2⟩; exact k1 c hc, List.pairwise_cons.2 ⟨fun c hc => k3 _ rfl c hc, k2⟩, fun t h => by cases h⟩
          · rintro ⟨k1, k2, _⟩
            obtain ⟨k4, k5⟩ := List.pairwise_cons.1 k2
            exact ⟨fun c hc => k1 c (by simp [hc]), k5, fun t h c hc => by cases h; exact k4 c hc⟩
        | some t =>
          simp only [decide_eq_true_eq]
          by_cases h3 : b.t < t
          · rw [if_pos h3]
            constructor
            · intro h; exact absurd h (by decide)
            · rintro ⟨_, _, k3⟩
              have := k3 t rfl b (by simp)
              omega
          · rw [if_neg h3, ih]
            constructor
            · rintro ⟨k1, k2, k3⟩
              refine ⟨fun c hc => by rcases List.mem_cons.1 hc with rfl | hc; exact ⟨h1, h2⟩; exact k1 c hc, List.pairwise_cons.2 ⟨fun c hc => k3 _ rfl c hc, k2⟩, fun u h c hc => ?_⟩
              cases h
              rcases List.mem_cons.1 hc with rfl | hc
              · omega
              · have := k3 _ rfl c hc
                omega
            · rintro ⟨k1, k2, _⟩
              obtain ⟨k4, k5⟩ := List.pairwise_cons.1 k2
              exact ⟨fun c hc => k1 c (by simp [hc]), k5, fun t h c hc => by cases h; exact k4 c hc⟩
      · rw [if_neg h2]
        constructor
        · intro h; exact absurd h (by decide)
        · rintro ⟨k1, _, _⟩
          exact absurd (k1 b (by simp)).2 h2
    · rw [if_neg h1]
      constructor
      · intro h; exact absurd h (by decide)
      · rintro ⟨k1, _, _⟩
        exact absurd (k1 b (by simp)).1 h1
/-- Some of the probes are right if all are. -/
theorem cpL_filter {keys : List (List UInt8)} {p : List Pb} (h : cpL keys none p = 0) (f : Pb → Bool) : cpL keys none (p.filter f) = 0 := by
  rw [cpL_iff] at h ⊢
  exact ⟨fun b hb => h.1 b (List.mem_filter.1 hb).1, h.2.1.filter f, fun t ht => by cases ht⟩
end Go.Ag
/- An abstract machine for Go functions: a row is sorted in its place (the shelf's contract, told in our words). -/
namespace Go.Ag
open Go
set_option linter.unusedVariables false
set_option linter.unusedSimpArgs false

theorem MRel.grow {X : Cells} {ow : Ow} {S : Mem} : ∀ (os : List Obj) (w : World), MRel X ow S w → MRel X ow S (Sort.grow w os.toArray) ∧ Tr X ow S.toks w ow S.toks (Sort.grow w os.toArray)
  | [], w, h => by
    rw [show Sort.grow w ([] : List Obj).toArray = w from Sort.grow_empty w]
    exact ⟨h, Tr.refl _ _ _ _⟩
  | o :: os, w, h => by
    obtain ⟨h1, t1⟩ := h.pushPlain o
    obtain ⟨h2, t2⟩ := MRel.grow os (w.alloc o) h1
    have e : Sort.grow (w.alloc o) os.toArray = Sort.grow w (o :: os).toArray := by
      rw [Sort.alloc_eq_grow, Sort.grow_grow]
      congr 1
      simp
    rw [e] at h2 t2
    exact ⟨h2, t1.trans t2⟩
theorem Enters.mk {P : Program} {f : FuncId} {fn : Func} {c : Code} (hf : P.funcs[f]? = some fn) (hb : fn.body = some c) (hn : notGor fn = true) : Enters P f := by
  intro zs w
  have : fn.name ≠ "runtime.NumGoroutine" := by simpa [notGor] using hn
  simp [callFunc, hf, hb, this]
/-- The order of strings. -/
def leStr (a b : List UInt8) : Bool := decide (a ≤ b)
theorem sort_sc {P : Program} {f : FuncId} (he : Enters P f)
    (hc : ∀ (blk off cap : Nat) (zs : List (List UInt8)) (w : World), Sort.Holds Proofs.encStr w blk off zs.toArray → blk < w.heap.size → zs.length < 4611686018427387904 →
      Calls P f #[.slice (some ⟨blk, off, none⟩) zs.length cap] w fun e w' => e = .returned (.tuple #[]) ∧ ∃ n os, w' = Sort.grow (Sort.putRow Proofs.encStr (Sort.ahead w n) blk off (zs.mergeSort leStr).toArray) os)
    {S : Mem} (hS : S.loc = []) {b ty : Nat} {xs : List (List UInt8)} (hb : S.mem[b]? = some (.cells ty (xs.map fun s => .p (.str s)))) (hx : xs.length < 4611686018427387904) :
    SC P f [.rs b 0 xs.length 1] S fun r S' => r = .tup [] ∧ S' = { S with mem := S.mem.set b (.cells ty ((xs.mergeSort leStr).map fun s => .p (.str s))) } := by
  refine ⟨he, fun X ow w vs hM hno hs hv => ?_⟩
  have hS' : ({ S with loc := [] } : Mem) = S := by cases S; simp at hS; subst hS; rfl
  rw [hS'] at hM
  have hs1 : vs.size = 1 := hs
  obtain ⟨v, rfl⟩ : ∃ v, vs = #[v] := by
    match vs, hs1 with
    | ⟨[v]⟩, _ => exact ⟨v, rfl⟩
  have hv0 := hv 0 _ _ rfl rfl
  cases hv0 with | rs _ _ _ _ β cap h hcap =>
  obtain ⟨hβ, _⟩ := hM.alive hb h
  obtain ⟨γ, hγ, us, fr, hh, hfr, hsz, hel⟩ := hM.cells hb
  obtain rfl := hM.inj _ _ _ hγ hβ
  have hlen := hsz.1
  rw [List.length_map] at hlen
  have hbnd := hM.bnd _ _ hβ
  have hcell : ∀ j (hj : j < xs.length), us[j]? = some (Proofs.encStr (xs[j]'hj)) := by
    intro j hj
    have h1 : us[j]? = some (us[j]'(by omega)) := Array.getElem?_eq_getElem (by omega)
    have h2 := hel j (.p (.str (xs[j]'hj))) _ (by rw [List.getElem?_map, List.getElem?_eq_getElem hj]; rfl) h1
    cases h2 with | p h2 =>
    generalize hu : us[j]'(by omega) = u at h2 h1
    cases h2
    exact h1
  have hH : Sort.Holds Proofs.encStr w γ 0 xs.toArray := by
    intro j hj
    have hj : j < xs.length := by simpa using hj
    refine ⟨?_, ?_⟩
    · unfold World.cell?
      simp only [hh, Nat.zero_add, Option.isSome_none, Bool.false_eq_true, if_false]
      rw [hcell j hj]
      simp [hj]
    · unfold World.frozen?
      simp only [hh, Nat.zero_add]
      have := hfr j (by omega)
      rw [Bool.eq_false_iff]
      intro h
      simp only [Bool.and_eq_true, decide_eq_true_eq] at h
      exact this h
  refine (hc γ 0 cap xs w hH hbnd hx).mono ?_
  rintro e w' ⟨rfl, n, os, rfl⟩
  generalize hsd : xs.mergeSort leStr = ys
  have hyl : ys.length = xs.length := by rw [← hsd, List.length_mergeSort]
  obtain ⟨m1, t1⟩ := hM.writeMem (o := 0) (l := ys.map fun s => .p (.str s)) (us := ys.map Proofs.encStr) hb hβ (by simp) (by simp; omega) (by
    intro k x v h1 h2
    rw [List.getElem?_map, Option.map_eq_some_iff] at h1 h2
    obtain ⟨s, h3, rfl⟩ := h1
    obtain ⟨s', h4, rfl⟩ := h2
    rw [h3] at h4
    cases h4
    exact .p (.str s))
  obtain ⟨e1, e2, e3, e4, e5⟩ := setCells_misc γ (ys.map Proofs.encStr) 0 w
  have hov : over (xs.map fun s => RV.p (.str s)) 0 (ys.map fun s => .p (.str s)) = ys.map fun s => .p (.str s) := by
    unfold over
    simp [hyl]
  rw [hov] at m1
  have hheap : (Sort.putRow Proofs.encStr (Sort.ahead w n) γ 0 ys.toArray).heap = (w.setCells γ 0 (ys.map Proofs.encStr)).heap := by
    apply Array.ext_getElem?
    intro k
    by_cases hk : γ = k
    · subst hk
      rw [setCells_row γ _ _ (ys.map Proofs.encStr) 0 us w hh (by simp; omega)]
      simp only [Sort.putRow, Sort.mapBlock, Sort.heap_ahead, Array.getElem?_modify, if_true, hh, Option.map_some, Sort.onCells]
      congr 2
      apply Array.ext_getElem?
      intro j
      simp only [Sort.putCells, Array.getElem?_mapIdx, List.getElem?_toArray]
      rw [over_get _ _ _ (by simp; omega)]
      simp only [Array.getElem?_toList, Nat.zero_le, true_and, Nat.zero_add, List.length_map, List.size_toArray, Nat.sub_zero, List.getElem?_map]
      by_cases hj : j < ys.length
      · rw [if_pos hj, Array.getElem?_eq_getElem (by omega), List.getElem?_eq_getElem hj]
        simp [hj]
      · rw [if_neg hj]
        cases us[j]? with
        | none => rfl
        | some u => simp [hj]
    · rw [e5 k (Ne.symm hk)]
      simp only [Sort.putRow, Sort.mapBlock, Sort.heap_ahead, Array.getElem?_modify, if_neg hk]
  have hw2 : ∀ w2 : World, w2 = Sort.putRow Proofs.encStr (Sort.ahead w n) γ 0 ys.toArray → w2.heap = (w.setCells γ 0 (ys.map Proofs.encStr)).heap ∧ w2.os = w.os ∧ w2.tape = w.tape ∧ w2.output = w.output := by
    rintro w2 rfl
    exact ⟨hheap, rfl, rfl, rfl⟩
  generalize Sort.putRow Proofs.encStr (Sort.ahead w n) γ 0 ys.toArray = w2 at hw2 ⊢
  obtain ⟨k1, k2, k3, k4⟩ := hw2 w2 rfl
  have m2 := m1.heap k1 (k2.trans e1.symm) (k3.trans e2.symm) (k4.trans e3.symm)
  have t2 : Tr X ow S.toks (w.setCells γ 0 (ys.map Proofs.encStr)) ow S.toks w2 := Tr.heap k1 (k2.trans e1.symm) (k3.trans e2.symm) (k4.trans e3.symm)
  obtain ⟨m3, t3⟩ := MRel.grow os.toList w2 m2
  simp only [Array.toArray_toList] at m3 t3
  refine ⟨.tuple #[], .tup [], _, ow, rfl, ⟨rfl, rfl⟩, hS, m3, hno, ?_, (t1.trans t2).trans t3⟩
  exact .tup [] #[] rfl (fun k x v h => by simp at h)
end Go.Ag
/- An abstract machine for Go functions: rows of strings in memory whose end is not known: looked at, written, cut. -/
namespace Go.Ag
open Go
set_option linter.unusedVariables false
set_option linter.unusedSimpArgs false

/-- Strings as cells. -/
abbrev pss (xs : List (List UInt8)) : List RV := xs.map fun s => .p (.str s)
theorem ia_rs {z b off len z' : Nat} {i : Int} (S : Mem) (h0 : 0 ≤ i) (h1 : i < len) : opA (.ia z) [.rs b off len z', .p (.int .i64 i)] S = some (.ptr b (off + i.toNat * z), S) := by
  simp [opA, oInt, iaA, h0, h1]
theorem ld_rs {b o ty : Nat} {S : Mem} {xs : List (List UInt8)} {x : List UInt8} (hb : S.mem[b]? = some (.cells ty (pss xs))) (hx : xs[o]? = some x) : opA (.ld none) [.ptr b o] S = some (.p (.str x), S) := by
  simp [opA, ldA, hb, ldCells, hx]
theorem over_map {α β : Type} (f : α → β) (xs ys : List α) (o : Nat) : over (xs.map f) o (ys.map f) = (over xs o ys).map f := by
  simp [over, List.map_take, List.map_drop]
theorem over_one {α : Type} {xs : List α} {o : Nat} (x : α) (h : o < xs.length) : over xs o [x] = xs.set o x := by
  apply List.ext_getElem?
  intro k
  rw [over_get _ _ _ (by simp; omega), List.getElem?_set]
  by_cases hk : o = k
  · subst hk
    rw [if_pos ⟨by omega, by simp⟩, if_pos rfl, if_pos h]
    simp
  · rw [if_neg (by simp; omega), if_neg hk]
theorem st_rs {b o ty : Nat} {S : Mem} {xs : List (List UInt8)} (x : List UInt8) (hb : S.mem[b]? = some (.cells ty (pss xs))) (ho : o < xs.length) :
    opA (.st 1) [.ptr b o, .p (.str x)] S = some (.top, { S with mem := S.mem.set b (.cells ty (pss (xs.set o x))) }) := by
  have h1 : over (pss xs) o [RV.p (.str x)] = pss (xs.set o x) := by
    have := over_map (fun s => RV.p (.str s)) xs [x] o
    rw [over_one x ho] at this
    exact this
  have h2 : o + 1 ≤ (pss xs).length := by simp; omega
  simp only [opA, stA, RV.solid, RV.cells, List.all_cons, List.all_nil, RV.isCell, PV.isCell, Bool.and_true, List.length_cons, List.length_nil, Nat.zero_add, beq_self_eq_true, Bool.and_self, if_true, hb, h2, h1, Option.map_some]
theorem clr_rs {b off len ty : Nat} {S : Mem} {xs : List (List UInt8)} (hb : S.mem[b]? = some (.cells ty (pss xs))) (ho : off + len ≤ xs.length) :
    opY (.clr 1 [.p (.str [])]) [.rs b off len 1] S = some (.p (.tup []), { S with mem := S.mem.set b (.cells ty (pss (over xs off (List.replicate len [])))) }) := by
  have h1 : over (pss xs) off (List.replicate len [RV.p (.str [])]).flatten = pss (over xs off (List.replicate len [])) := by
    have e : (List.replicate len [RV.p (.str [])]).flatten = (List.replicate len ([] : List UInt8)).map fun s => RV.p (.str s) := by
      rw [List.map_replicate, List.flatten_replicate_singleton]
    rw [e]
    exact over_map _ _ _ _
  have h2 : off + len * 1 ≤ (pss xs).length := by simp; omega
  simp only [opY, clrA, List.length_cons, List.length_nil, Nat.zero_add, List.all_cons, List.all_nil, RV.isCell, PV.isCell, Bool.and_self, and_self, if_true, hb, h2, h1]
theorem cut_from {b off len : Nat} {S : Mem} {k : Int} (h0 : 0 ≤ k) (h1 : k < len) : opA (.sll 1 true false) [.rs b off len 1, .p (.int .i64 k)] S = some (.rs b (off + k.toNat * 1) (len - k.toNat) 1, S) := by
  have e2 : ¬ k.toNat = len := by omega
  have e3 : k ≤ len := by omega
  by_cases e1 : k.toNat = 0
  · simp [opA, cutArgs, asInts, oInt, sllA, cutB, e1, h0, e3]
  · simp [opA, cutArgs, asInts, oInt, sllA, cutB, e1, e2, h0, e3]
theorem cut_to {b off len : Nat} {S : Mem} {k : Int} (h0 : 0 ≤ k) (h1 : k ≤ len) : opA (.sll 1 false true) [.rs b off len 1, .p (.int .i64 k)] S = some (.rs b off k.toNat 1, S) := by
  simp [opA, cutArgs, asInts, oInt, sllA, cutB, h0, h1]
theorem ia_nat {b len z' i : Nat} (S : Mem) (h : i < len) : opA (.ia 1) [.rs b 0 len z', .p (.int .i64 (i : Int))] S = some (.ptr b i, S) := by
  have := ia_rs (z := 1) (b := b) (off := 0) (len := len) (z' := z') (i := (i : Int)) S (by omega) (by omega)
  rw [this]
  simp
theorem ia_off {b off len z' i : Nat} (S : Mem) (h : i < len) : opA (.ia 1) [.rs b off len z', .p (.int .i64 (i : Int))] S = some (.ptr b (off + i), S) := by
  have := ia_rs (z := 1) (b := b) (off := off) (len := len) (z' := z') (i := (i : Int)) S (by omega) (by omega)
  rw [this]
  simp
theorem cut_nat {b len k : Nat} {S : Mem} (h : k < len) : opA (.sll 1 true false) [.rs b 0 len 1, .p (.int .i64 (k : Int))] S = some (.rs b k (len - k) 1, S) := by
  have := cut_from (b := b) (off := 0) (S := S) (k := (k : Int)) (len := len) (by omega) (by omega)
  rw [this]
  simp
theorem cut_tn {b off len k : Nat} {S : Mem} (h : k ≤ len) : opA (.sll 1 false true) [.rs b off len 1, .p (.int .i64 (k : Int))] S = some (.rs b off k 1, S) := by
  have := cut_to (b := b) (off := off) (S := S) (k := (k : Int)) (len := len) (by omega) (by omega)
  rw [this]
  simp
theorem app_new {ty bytes : Nat} {S : Mem} {q : Bool} {xs : List (List UInt8)} (hne : xs ≠ []) (hlim : xs.length * bytes ≤ lim) :
    opY (.appg 1 ty bytes) [.nsl q, .p (.sl (xs.map PV.str))] S = some (.rs S.mem.length 0 xs.length 1, { S with mem := S.mem ++ [.cells (2 * ty + 1) (pss xs)] }) := by
  have h1 : uni 1 (xs.map PV.str) = true := by
    rw [uni, List.all_eq_true]
    intro x hx
    obtain ⟨s, _, rfl⟩ := List.mem_map.1 hx
    rfl
  have h2 : (flat (xs.map PV.str)).map RV.p = pss xs := by
    clear hne hlim h1
    induction xs with
    | nil => rfl
    | cons x xs ih => rw [List.map_cons, flat_cons, List.map_append, ih]; rfl
  have h3 : ¬ xs.length = 0 := by cases xs <;> simp_all
  simp only [opY, growA, srcC, h1, if_true, List.length_map, h2, h3, if_false, hlim]
theorem chunk_one : ∀ (xs : List PV), chunk 1 xs.length xs = xs
  | [] => rfl
  | x :: xs => by
    show (if 1 = 1 then (x :: xs).headD .top else _) :: chunk 1 xs.length ((x :: xs).drop 1) = _
    rw [if_pos rfl, List.drop_one, List.tail_cons, chunk_one xs]
    rfl
theorem mapO_map {α β γ : Type} {f : β → Option γ} {g : α → β} {h : α → γ} (e : ∀ x, f (g x) = some (h x)) : ∀ l : List α, mapO f (l.map g) = some (l.map h)
  | [] => rfl
  | x :: l => by simp only [List.map_cons, mapO, e, mapO_map e l]
theorem still_rs {b k ty : Nat} {S : Mem} {xs : List (List UInt8)} (hb : S.mem[b]? = some (.cells ty (pss xs))) (hk : k ≤ xs.length) : (RV.rs b 0 k 1).still S = some (.sl ((xs.take k).map PV.str)) := by
  have h1 : sub (pss xs) 0 (k * 1) = some (pss (xs.take k)) := by
    unfold sub
    rw [if_pos (by simp; omega)]
    simp [List.map_take]
  have h2 : mapO (RV.stillN 5 S) (pss (xs.take k)) = some ((xs.take k).map PV.str) := mapO_map (g := fun s => RV.p (.str s)) (h := PV.str) (fun x => rfl) _
  have h3 : ((xs.take k).map PV.str).all (fun x => !x.isAgg) = true := by
    rw [List.all_eq_true]
    intro x hx
    obtain ⟨s, _, rfl⟩ := List.mem_map.1 hx
    rfl
  have h4 : ((xs.take k).map PV.str).length = k := by simp; omega
  have h5 := chunk_one ((xs.take k).map PV.str)
  rw [h4] at h5
  simp only [RV.still, RV.stillN, hb, h1, h2, h3, h5]
  simp
theorem low_pss (n m ty : Nat) (xs : List (List UInt8)) : (Blk.cells ty (pss xs)).low n m = true := by
  simp [Blk.low, RV.low]
end Go.Ag
/- An abstract machine for Go functions: rows of structures in memory that may be written. -/
namespace Go.Ag
open Go
set_option linter.unusedVariables false
set_option linter.unusedSimpArgs false
section
variable {α : Type} {c : α → List PV} {z : Nat}

/-- Structures of so many plain fields. -/
structure Fl (c : α → List PV) (z : Nat) : Prop where
  len : ∀ x, (c x).length = z
  cell : ∀ x, ∀ y ∈ c x, y.isCell = true
  two : 2 ≤ z
abbrev fz (c : α → List PV) (x : α) : List RV := (c x).map .p
abbrev rowz (c : α → List PV) (xs : List α) : List RV := xs.flatMap (fz c)
abbrev gz (c : α → List PV) (x : α) : PV := .agg (c x)
theorem rowz_len (h : Fl c z) : ∀ xs : List α, (rowz c xs).length = xs.length * z
  | [] => by simp
  | x :: xs => by
    rw [rowz, List.flatMap_cons, List.length_append, rowz_len h xs, List.length_map, h.len, List.length_cons, Nat.succ_mul]
    omega
theorem rowz_at (h : Fl c z) : ∀ {xs : List α} {i : Nat} {x : α} (_ : xs[i]? = some x) {k : Nat} (_ : k < z), (rowz c xs)[i * z + k]? = (fz c x)[k]?
  | [], i, x, hx, k, hk => by simp at hx
  | y :: xs, 0, x, hx, k, hk => by
    simp at hx
    subst hx
    rw [rowz, List.flatMap_cons, Nat.zero_mul, Nat.zero_add, List.getElem?_append_left (by rw [List.length_map, h.len]; exact hk)]
  | y :: xs, i + 1, x, hx, k, hk => by
    have hz : (fz c y).length = z := by rw [List.length_map, h.len]
    have e : (i + 1) * z + k - z = i * z + k := by rw [Nat.succ_mul]; omega
    rw [rowz, List.flatMap_cons, List.getElem?_append_right (by rw [hz, Nat.succ_mul]; omega), hz, e]
    exact rowz_at h (by simpa using hx) hk
theorem rowz_sub (h : Fl c z) {xs : List α} {i : Nat} {x : α} (hx : xs[i]? = some x) : sub (rowz c xs) (i * z) z = some (fz c x) := by
  have hi := (List.getElem?_eq_some_iff.1 hx).1
  have hle : i * z + z ≤ xs.length * z := by
    have := Nat.mul_le_mul_right z (show i + 1 ≤ xs.length by omega)
    rw [Nat.succ_mul] at this
    exact this
  unfold sub
  rw [if_pos (by rw [rowz_len h]; exact hle)]
  congr 1
  apply List.ext_getElem?
  intro k
  rw [List.getElem?_take]
  by_cases hk : k < z
  · rw [if_pos hk, List.getElem?_drop]
    exact rowz_at h hx hk
  · rw [if_neg hk, List.getElem?_eq_none (by rw [List.length_map, h.len]; omega)]
theorem rowz_over (h : Fl c z) : ∀ {xs : List α} {i : Nat} (y : α) (_ : i < xs.length), over (rowz c xs) (i * z) (fz c y) = rowz c (xs.set i y)
  | [], i, y, hi => by simp at hi
  | x :: xs, 0, y, hi => by
    have hx : (fz c x).length = z := by rw [List.length_map, h.len]
    have hy : (fz c y).length = z := by rw [List.length_map, h.len]
    rw [rowz, List.flatMap_cons, over, Nat.zero_mul, List.take_zero, List.nil_append, Nat.zero_add, hy, List.set_cons_zero, rowz, List.flatMap_cons, ← hx, List.drop_left]
  | x :: xs, i + 1, y, hi => by
    have hx : (fz c x).length = z := by rw [List.length_map, h.len]
    have ih := rowz_over h (xs := xs) (i := i) y (by simpa using hi)
    have e1 : (i + 1) * z = (fz c x).length + i * z := by rw [hx, Nat.succ_mul]; omega
    show over (fz c x ++ rowz c xs) ((i + 1) * z) (fz c y) = fz c x ++ rowz c (xs.set i y)
    rw [← ih, over, over, e1, List.take_length_add_append, Nat.add_assoc, List.drop_length_add_append]
    simp [List.append_assoc]
theorem rowz_take (h : Fl c z) {xs : List α} {k : Nat} (hk : k ≤ xs.length) : (rowz c xs).take (k * z) = rowz c (xs.take k) := by
  have e : rowz c xs = rowz c (xs.take k) ++ rowz c (xs.drop k) := by
    rw [rowz, rowz, rowz, ← List.flatMap_append, List.take_append_drop]
  rw [e, List.take_left' (by rw [rowz_len h, List.length_take, Nat.min_eq_left hk])]
theorem rowz_clr (h : Fl c z) {xs : List α} {k n : Nat} (zero : α) (hk : k + n = xs.length) : over (rowz c xs) (k * z) (List.replicate n (fz c zero)).flatten = rowz c (xs.take k ++ List.replicate n zero) := by
  have e1 : (List.replicate n (fz c zero)).flatten = rowz c (List.replicate n zero) := by
    rw [rowz, List.flatMap_replicate]
  have e2 : (rowz c xs).drop (k * z + (rowz c (List.replicate n zero)).length) = [] := by
    rw [List.drop_eq_nil_iff, rowz_len h, rowz_len h, List.length_replicate, ← hk, Nat.add_mul]
    exact Nat.le_refl _
  rw [e1, over, e2, rowz_take h (by omega), List.append_nil, rowz, rowz, ← List.flatMap_append]

theorem ia_z {b len z' i : Nat} (S : Mem) (hi : i < len) : opA (.ia z) [.rs b 0 len z', .p (.int .i64 (i : Int))] S = some (.ptr b (i * z), S) := by
  have := ia_rs (z := z) (b := b) (off := 0) (len := len) (z' := z') (i := (i : Int)) S (by omega) (by omega)
  rw [this]
  simp
theorem ld_z (h : Fl c z) {b i ty : Nat} {S : Mem} {xs : List α} {x : α} (hb : S.mem[b]? = some (.cells ty (rowz c xs))) (hx : xs[i]? = some x) : opA (.ld (some z)) [.ptr b (i * z)] S = some (.agg (fz c x), S) := by
  simp only [opA, ldA, hb, ldCells, rowz_sub h hx, Option.map_some]
theorem ld_zf (h : Fl c z) {b i k ty : Nat} {S : Mem} {xs : List α} {x : α} {v : RV} (hb : S.mem[b]? = some (.cells ty (rowz c xs))) (hx : xs[i]? = some x) (hk : k < z) (hv : (fz c x)[k]? = some v) : opA (.ld none) [.ptr b (i * z + k)] S = some (v, S) := by
  simp only [opA, ldA, hb, ldCells, rowz_at h hx hk, hv, Option.map_some]
theorem st_z (h : Fl c z) {b i ty : Nat} {S : Mem} {xs : List α} (y : α) (hb : S.mem[b]? = some (.cells ty (rowz c xs))) (hi : i < xs.length) :
    opA (.st z) [.ptr b (i * z), .agg (fz c y)] S = some (.top, { S with mem := S.mem.set b (.cells ty (rowz c (xs.set i y))) }) := by
  have h1 : (fz c y).all RV.isCell = true := by
    rw [List.all_eq_true]
    intro v hv
    obtain ⟨q, hq, rfl⟩ := List.mem_map.1 hv
    exact h.cell y q hq
  have h2 : (fz c y).length = z := by rw [List.length_map, h.len]
  have h3 : i * z + z ≤ (rowz c xs).length := by
    rw [rowz_len h, ← Nat.succ_mul]
    exact Nat.mul_le_mul_right z hi
  simp only [opA, stA, RV.solid, RV.cells, h1, h2, beq_self_eq_true, Bool.and_self, if_true, hb, h3, rowz_over h y hi, Option.map_some]
/-- One field is written. -/
theorem st_zf (h : Fl c z) {b i k ty : Nat} {S : Mem} {xs : List α} {x y : α} {v : PV} (hb : S.mem[b]? = some (.cells ty (rowz c xs))) (hx : xs[i]? = some x) (hk : k < z) (hy : c y = (c x).set k v) (hv : v.isCell = true) (hs : (RV.p v).solid = true) (hc : (RV.p v).cells = [.p v]) :
    opA (.st 1) [.ptr b (i * z + k), .p v] S = some (.top, { S with mem := S.mem.set b (.cells ty (rowz c (xs.set i y))) }) := by
  have hi := (List.getElem?_eq_some_iff.1 hx).1
  have h3 : i * z + k + 1 ≤ (rowz c xs).length := by
    rw [rowz_len h]
    have := Nat.mul_le_mul_right z (show i + 1 ≤ xs.length by omega)
    rw [Nat.succ_mul] at this
    omega
  have h4 : over (rowz c xs) (i * z + k) [RV.p v] = rowz c (xs.set i y) := by
    rw [over_one (RV.p v) (by omega), ← rowz_over h y hi]
    apply List.ext_getElem?
    intro j
    have hz : (fz c y).length = z := by rw [List.length_map, h.len]
    have h5 : i * z + z ≤ (rowz c xs).length := by
      rw [rowz_len h, ← Nat.succ_mul]
      exact Nat.mul_le_mul_right z hi
    rw [over_get _ _ _ (by rw [hz]; omega), hz, List.getElem?_set]
    have hy2 : fz c y = (fz c x).set k (.p v) := by rw [fz, hy, List.map_set]
    by_cases hj : i * z ≤ j ∧ j < i * z + z
    · rw [if_pos hj, hy2, List.getElem?_set]
      by_cases hjk : i * z + k = j
      · subst hjk
        rw [if_pos rfl, if_pos (by omega), if_pos (by omega), if_pos (by rw [List.length_map, h.len]; omega)]
      · rw [if_neg hjk, if_neg (by omega)]
        have := rowz_at h hx (k := j - i * z) (by omega)
        rw [← this]
        congr 1
        omega
    · rw [if_neg hj, if_neg (by omega)]
  have hcell : (RV.p v).isCell = true := hv
  simp only [opA, stA, hs, hc, List.all_cons, List.all_nil, hcell, Bool.and_true, List.length_cons, List.length_nil, Nat.zero_add, beq_self_eq_true, Bool.and_self, if_true, hb, h3, h4, Option.map_some]
theorem clr_z (h : Fl c z) {b k n ty : Nat} {S : Mem} {xs : List α} (zero : α) (hb : S.mem[b]? = some (.cells ty (rowz c xs))) (hk : k + n = xs.length) {zc : List RV} (hzc : zc = fz c zero) :
    opY (.clr z zc) [.rs b (k * z) n z] S = some (.p (.tup []), { S with mem := S.mem.set b (.cells ty (rowz c (xs.take k ++ List.replicate n zero))) }) := by
  subst hzc
  have h1 : (fz c zero).all RV.isCell = true := by
    rw [List.all_eq_true]
    intro v hv
    obtain ⟨q, hq, rfl⟩ := List.mem_map.1 hv
    exact h.cell zero q hq
  have h2 : (fz c zero).length = z := by rw [List.length_map, h.len]
  have h3 : k * z + n * z ≤ (rowz c xs).length := by rw [rowz_len h, ← Nat.add_mul, hk]; exact Nat.le_refl _
  simp only [opY, clrA, h1, h2, and_self, if_true, hb, h3, rowz_clr h zero hk]
theorem cut_z {b len k : Nat} {S : Mem} (h : k < len) : opA (.sll z true false) [.rs b 0 len z, .p (.int .i64 (k : Int))] S = some (.rs b (k * z) (len - k) z, S) := by
  have e2 : ¬ k = len := by omega
  have e3 : (k : Int) ≤ len := by omega
  by_cases e1 : k = 0
  · subst e1
    simp [opA, cutArgs, asInts, oInt, sllA, cutB]
  · simp [opA, cutArgs, asInts, oInt, sllA, cutB, e1, e2, e3]
theorem cut_tz {b len k : Nat} {S : Mem} (h : k ≤ len) : opA (.sll z false true) [.rs b 0 len z, .p (.int .i64 (k : Int))] S = some (.rs b 0 k z, S) := by
  have e3 : (k : Int) ≤ len := by omega
  simp [opA, cutArgs, asInts, oInt, sllA, cutB, e3]
theorem uni_z (h : Fl c z) (xs : List α) : uni z (xs.map (gz c)) = true := by
  rw [uni, List.all_eq_true]
  intro x hx
  obtain ⟨s, _, rfl⟩ := List.mem_map.1 hx
  simp only [Bool.and_eq_true, beq_iff_eq, List.all_eq_true]
  exact ⟨h.len s, h.cell s⟩
theorem flat_z : ∀ xs : List α, (flat (xs.map (gz c))).map RV.p = rowz c xs
  | [] => rfl
  | x :: xs => by
    rw [List.map_cons, flat_cons, List.map_append, flat_z xs, rowz, rowz, List.flatMap_cons]
    rfl
theorem app_z (h : Fl c z) {ty bytes : Nat} {S : Mem} {q : Bool} {xs : List α} {x : RV} (hx : x = .p (.sl (xs.map (gz c))) ∨ ∃ t, x = .own (xs.map (gz c)) t) (hne : xs ≠ []) (hlim : xs.length * bytes ≤ lim) :
    opY (.appg z ty bytes) [.nsl q, x] S = some (.rs S.mem.length 0 xs.length z, { S with mem := S.mem ++ [.cells (2 * ty + 1) (rowz c xs)] }) := by
  have h1 := uni_z h xs
  have h2 := flat_z (c := c) xs
  have h3 : ¬ xs.length = 0 := by cases xs <;> simp_all
  rcases hx with rfl | ⟨t, rfl⟩
  · simp only [opY, growA, srcC, h1, if_true, List.length_map, h2, h3, if_false, hlim]
  · simp only [opY, growA, srcC, h1, if_true, List.length_map, h2, h3, if_false, hlim]
theorem chunk_z (h : Fl c z) : ∀ xs : List α, chunk z xs.length (xs.flatMap c) = xs.map (gz c)
  | [] => rfl
  | x :: xs => by
    have hz1 : ¬ z = 1 := by have := h.two; omega
    show (if z = 1 then _ else PV.agg ((x :: xs).flatMap c |>.take z)) :: chunk z xs.length (((x :: xs).flatMap c).drop z) = _
    rw [if_neg hz1, List.flatMap_cons, List.take_left' (h.len x), List.drop_left' (h.len x), chunk_z h xs]
    rfl
theorem still_zn (h : Fl c z) (n : Nat) {b k ty : Nat} {S : Mem} {xs : List α} (hb : S.mem[b]? = some (.cells ty (rowz c xs))) (hk : k ≤ xs.length) : (RV.rs b 0 k z).stillN (n + 1) S = some (.sl ((xs.take k).map (gz c))) := by
  have h1 : sub (rowz c xs) 0 (k * z) = some (rowz c (xs.take k)) := by
    unfold sub
    rw [if_pos (by rw [rowz_len h]; have := Nat.mul_le_mul_right z hk; omega), List.drop_zero, rowz_take h hk]
  have e : rowz c (xs.take k) = ((xs.take k).flatMap c).map RV.p := by rw [rowz, List.map_flatMap]
  have hp : ∀ v, RV.stillN n S (.p v) = some v := by intro v; cases n <;> rfl
  have h2 : mapO (RV.stillN n S) (rowz c (xs.take k)) = some ((xs.take k).flatMap c) := by
    rw [e]
    have := mapO_map (f := RV.stillN n S) (g := RV.p) (h := id) hp ((xs.take k).flatMap c)
    simpa using this
  have h4 : (xs.take k).length = k := by simp; omega
  have h5 := chunk_z h (xs.take k)
  rw [h4] at h5
  have h6 := h.two
  have h7 : z ≠ 0 ∧ (z = 1 → ((xs.take k).flatMap c).all (fun x => !x.isAgg) = true) := ⟨by omega, fun h => by omega⟩
  simp only [RV.stillN, hb, h1, h2, h5, if_pos h7]
theorem still_z (h : Fl c z) {b k ty : Nat} {S : Mem} {xs : List α} (hb : S.mem[b]? = some (.cells ty (rowz c xs))) (hk : k ≤ xs.length) : (RV.rs b 0 k z).still S = some (.sl ((xs.take k).map (gz c))) := still_zn h 5 hb hk
theorem mks_z (h : Fl c z) {ty bytes n : Nat} {S : Mem} (zero : α) {zc : List RV} (hz : zc = fz c zero) (hlim : n * bytes ≤ lim) :
    opA (.mks z ty bytes zc) [.p (.int .i64 (n : Int)), .p (.int .i64 (n : Int))] S = some (.rs S.mem.length 0 n z, { S with mem := S.mem ++ [.cells (2 * ty) (rowz c (List.replicate n zero))] }) := by
  subst hz
  have e1 : (List.replicate n (fz c zero)).flatten = rowz c (List.replicate n zero) := by
    rw [rowz, List.flatMap_replicate]
  have h1 : (0 : Int) ≤ n ∧ (n : Int) ≤ n ∧ (n : Int) * bytes ≤ lim := ⟨by omega, Int.le_refl _, by exact_mod_cast hlim⟩
  simp only [opA, oInt, Option.bind_some, mksA, if_pos h1, Int.toNat_natCast, e1]
/-- A row at an opaque place is written. -/
theorem set_same {β : Type} {m : List β} {b : Nat} {k : β} (h : m[b]? = some k) : m.set b k = m := by
  apply List.ext_getElem?
  intro i
  rw [List.getElem?_set]
  split
  · rename_i hb
    subst hb
    rw [if_pos (List.getElem?_eq_some_iff.1 h).1, h]
  · rfl
theorem st_zs (h : Fl c z) {b i ty : Nat} {L : List (Nat × List RV)} {m : List Blk} {T : List (Nat × Nat × Nat)} {xs : List α} (y : α) (hb : b < m.length) (hi : i < xs.length) :
    opA (.st z) [.ptr b (i * z), .agg (fz c y)] ⟨L, m.set b (.cells ty (rowz c xs)), T⟩ = some (.top, ⟨L, m.set b (.cells ty (rowz c (xs.set i y))), T⟩) := by
  rw [st_z h y (b := b) (ty := ty) (xs := xs) (by simp [hb]) hi]
  simp only [List.set_set]
theorem clr_zs (h : Fl c z) {b k n ty : Nat} {L : List (Nat × List RV)} {m : List Blk} {T : List (Nat × Nat × Nat)} {xs : List α} (zero : α) (hb : b < m.length) (hk : k + n = xs.length) {zc : List RV} (hzc : zc = fz c zero) :
    opY (.clr z zc) [.rs b (k * z) n z] ⟨L, m.set b (.cells ty (rowz c xs)), T⟩ = some (.p (.tup []), ⟨L, m.set b (.cells ty (rowz c (xs.take k ++ List.replicate n zero))), T⟩) := by
  rw [clr_z h zero (b := b) (ty := ty) (xs := xs) (by simp [hb]) hk hzc]
  simp only [List.set_set]
end
end Go.Ag
/- An abstract machine for Go functions: a row that nobody will write any more is handed to a function of values. -/
namespace Go.Ag
open Go
set_option linter.unusedVariables false
set_option linter.unusedSimpArgs false
section
variable {P : Program} {X : Cells} {ow : Ow} {S : Mem} {w : World}

def owDrop (ow : Ow) (β : Nat) : Ow := fun γ => if γ = β then none else ow γ
theorem owDrop_some {ow : Ow} {β γ : Nat} {o : Owner} (h : owDrop ow β γ = some o) : γ ≠ β ∧ ow γ = some o := by
  unfold owDrop at h
  split at h
  · cases h
  · exact ⟨by assumption, h⟩
theorem owDrop_old {ow : Ow} {β γ : Nat} (h : γ ≠ β) : owDrop ow β γ = ow γ := by unfold owDrop; rw [if_neg h]
theorem MRel.freeze (hM : MRel X ow S w) {b β : Nat} {t : Nat} {cs : List RV} (hS : S.mem[b]? = some (.cells t cs)) (hb : ow β = some (.mem b)) :
    MRel X (owDrop ow β) { S with mem := S.mem.set b .dead, toks := S.toks ++ [(b, 0, 0)] } w ∧ Tr X ow S.toks w (owDrop ow β) (S.toks ++ [(b, 0, 0)]) w := by
  have hbl : b < S.mem.length := (List.getElem?_eq_some_iff.1 hS).1
  have hdead : ∀ c, Dead (S.toks ++ [(b, 0, 0)]) c ↔ (Dead S.toks c ∨ c = b) := by
    intro c
    unfold Dead
    rw [List.mem_append]
    simp
  have tr : Tr X ow S.toks w (owDrop ow β) (S.toks ++ [(b, 0, 0)]) w :=
    { st := fun γ o u h h0 => by
        have hne : γ ≠ β := by
          rintro rfl
          refine h0 (.inr ?_)
          unfold Mut
          rw [hb]; trivial
        refine ⟨h, fun hx => h0 ?_⟩
        rcases hx with hx | hx
        · exact .inl hx
        · right
          unfold Mut at *
          rw [owDrop_old hne] at hx
          revert hx
          cases hq : ow γ with
          | none => exact id
          | some q =>
            cases q with
            | mem c => exact id
            | loc d => exact id
            | tok t' =>
              rintro ⟨e', z', h1, h2⟩
              rw [List.getElem?_append_left (hM.toklt _ _ hq)] at h1
              exact ⟨e', z', h1, h2⟩
      mem := fun γ c h => by
        by_cases hne : γ = β
        · subst hne
          rw [hb] at h
          cases h
          exact .inl ((hdead _).2 (.inr rfl))
        · exact .inr ⟨by rw [owDrop_old hne, h], rfl⟩
      tl := by simp
      tok := fun t' e' z' htl h => by
        rw [List.getElem?_append_left htl] at h
        refine ⟨e', h, Nat.le_refl _, fun _ => rfl, fun _ γ sh h1 h2 => ?_⟩
        have hne : γ ≠ β := by rintro rfl; rw [hb] at h1; cases h1
        exact ⟨by rw [owDrop_old hne, h1], h2⟩
      fr := fun γ hγ hn => by
        have hne : γ ≠ β := by rintro rfl; rw [hb] at hn; cases hn
        exact ⟨by rw [owDrop_old hne, hn], rfl⟩
      size := Nat.le_refl _
      os := rfl
      tape := rfl
      output := rfl }
  refine ⟨?_, tr⟩
  exact
    { inj := fun γ γ' o h h' => hM.inj _ _ _ (owDrop_some h).2 (owDrop_some h').2
      bnd := fun γ o h => hM.bnd _ _ (owDrop_some h).2
      xb := fun γ o hx => by
        obtain ⟨h1, h2⟩ := hM.xb γ o hx
        exact ⟨h1, (tr.fr γ h1 h2).1⟩
      memlt := fun γ c h => by
        simp only [List.length_set]
        exact hM.memlt _ _ (owDrop_some h).2
      toklt := fun γ c h => by
        simp only [List.length_append, List.length_singleton]
        have := hM.toklt _ _ (owDrop_some h).2
        omega
      locin := fun γ d h => hM.locin _ _ (owDrop_some h).2
      deadlt := fun c h => by
        simp only [List.length_set]
        rcases (hdead c).1 h with h | h
        · exact hM.deadlt _ h
        · omega
      blk := fun c k' h => by
        simp only [List.getElem?_set] at h
        by_cases hcb : b = c
        · subst hcb
          rw [if_pos rfl, if_pos hbl] at h
          cases h
          trivial
        · rw [if_neg hcb] at h
          refine (hM.blk c k' h).mono tr (fun hd => ?_) (fun γ hγ => rfl)
          rcases (hdead c).1 hd with hd | hd
          · exact hd
          · exact absurd hd.symm hcb
      loc := fun d cs' h => by
        obtain ⟨γ, hγ, hr⟩ := hM.loc d cs' h
        have hne : γ ≠ β := by rintro rfl; rw [hb] at hγ; cases hγ
        exact ⟨γ, by rw [owDrop_old hne, hγ], hr.mono tr rfl⟩
      tok := fun t' e' z' h hz => by
        simp only at h
        by_cases hc : t' < S.toks.length
        · rw [List.getElem?_append_left hc] at h
          obtain ⟨γ, vs, fr, h1, h2, h3⟩ := hM.tok t' e' z' h hz
          have hne : γ ≠ β := by rintro rfl; rw [hb] at h1; cases h1
          exact ⟨γ, vs, fr, by rw [owDrop_old hne, h1], h2, h3⟩
        · have hc' : t' = S.toks.length := by
            have := (List.getElem?_eq_some_iff.1 h).1
            simp at this; omega
          subst hc'
          simp at h
          obtain ⟨_, rfl⟩ := h
          exact absurd rfl hz }
theorem rs_rep (hM : MRel X ow S w) {F' : Cells} (hF : ∀ β o, F' β o → FX X ow S.toks β o) {b ty : Nat} {pcs : List PV} (hb : S.mem[b]? = some (.cells ty (pcs.map .p))) (hFb : ∀ β o, ow β = some (.mem b) → ¬ F' β o)
    {z : Nat} {v : Value} {xs : List PV} (h : FRep (FX X ow S.toks) w ow S.toks (.rs b 0 xs.length z) v) (hz : z ≠ 0) (hc : ∀ x ∈ xs, x.cells.length = z) (hx : ∀ (k : Nat) y, (flat xs)[k]? = some y → pcs[k]? = some y) : Rep F' w (.sl xs) v := by
  have hst : St (FX X ow S.toks) w F' w := fun β o u a b => ⟨a, fun c => b (hF β o c)⟩
  cases h with | rs _ _ _ _ β cap ho hcap =>
  obtain ⟨γ, hγ, vs, fr, h1, h2, ⟨h3, _⟩, h4⟩ := hM.cells hb
  obtain rfl := hM.inj _ _ _ hγ (hM.alive hb ho).1
  have hlt : ∀ k, k < (flat xs).length → k < vs.size := by
    intro k hk
    have := hx k _ (List.getElem?_eq_getElem hk)
    have := (List.getElem?_eq_some_iff.1 this).1
    rw [List.length_map] at h3
    omega
  refine .sl _ _ cap z (fun k => vs.getD k undef) hz hcap hc (.inr ⟨γ, 0, rfl, fun k hk => ?_⟩) (fun k y hy => ?_)
  · have := hlt k hk
    exact ⟨by simp [World.cell?, h1, this], hFb γ _ hγ⟩
  · have hk := hlt k (List.getElem?_eq_some_iff.1 hy).1
    have hp : (pcs.map RV.p)[k]? = some (.p y) := by rw [List.getElem?_map, hx k y hy]; rfl
    have := h4 k _ (vs.getD k undef) hp (by simp [hk])
    cases this with | p this => exact this.mono hst
/-- What is handed on: a value, or the row that is frozen. -/
def Hand (b : Nat) (a : RV) (pv : PV) (pcs : List PV) : Prop :=
  a.toPV = some pv ∨ ∃ xs z, a = .rs b 0 xs.length z ∧ pv = .sl xs ∧ z ≠ 0 ∧ (∀ x ∈ xs, x.cells.length = z) ∧ ∀ (k : Nat) y, (flat xs)[k]? = some y → pcs[k]? = some y
theorem PFun.frozen {f : FuncId} {pvs : List PV} {r : PV} (h : PFun P f pvs r) {args : List RV} {S : Mem} (hS : S.loc = []) {b ty : Nat} {pcs : List PV} (hb : S.mem[b]? = some (.cells ty (pcs.map .p)))
    (hl : args.length = pvs.length) (ha : ∀ (k : Nat) a, args[k]? = some a → ∃ pv, pvs[k]? = some pv ∧ Hand b a pv pcs) :
    SC P f args S fun r' S' => r' = .p r ∧ S' = { S with mem := S.mem.set b .dead, toks := S.toks ++ [(b, 0, 0)] } := by
  refine ⟨h.1, fun X ow w vs hM hno hs hv => ?_⟩
  have hS' : ({ S with loc := [] } : Mem) = S := by cases S; simp at hS; subst hS; rfl
  rw [hS'] at hM
  obtain ⟨β, hβ, _⟩ := hM.cells hb
  obtain ⟨hM1, tr1⟩ := hM.freeze hb hβ
  generalize hT : S.toks ++ [(b, 0, 0)] = T1 at hM1 tr1
  generalize hS1 : ({ S with mem := S.mem.set b .dead, toks := T1 } : Mem) = S1 at hM1
  have hT1 : S1.toks = T1 := by rw [← hS1]
  have hFF1 : ∀ γ o, FX X (owDrop ow β) T1 γ o → FX X ow S.toks γ o := by
    rintro γ o (hx | hx)
    · exact .inl hx
    · right
      unfold Mut at *
      by_cases hne : γ = β
      · subst hne
        rw [hβ]; trivial
      · rw [owDrop_old hne] at hx
        revert hx
        cases hq : ow γ with
        | none => exact id
        | some q =>
          cases q with
          | mem c => exact id
          | loc d => exact id
          | tok t' =>
            rintro ⟨e', z', h1, h2⟩
            rw [← hT, List.getElem?_append_left (hM.toklt _ _ hq)] at h1
            exact ⟨e', z', h1, h2⟩
  have hFb : ∀ γ o, ow γ = some (.mem b) → ¬ FX X (owDrop ow β) T1 γ o := by
    intro γ o hγ hx
    obtain rfl := hM.inj _ _ _ hγ hβ
    rcases hx with hx | hx
    · have := (hM.xb _ _ hx).2
      rw [hγ] at this
      cases this
    · unfold Mut owDrop at hx
      rw [if_pos rfl] at hx
      exact hx
  have hreps : ∀ (k : Nat) q v, (pvs.map RV.p)[k]? = some q → vs[k]? = some v → FRep (FX X (owDrop ow β) S1.toks) w (owDrop ow β) S1.toks q v := by
    intro k q v hq hvk
    rw [List.getElem?_map, Option.map_eq_some_iff] at hq
    obtain ⟨pv, hpv, rfl⟩ := hq
    have hk : k < args.length := by rw [hl]; exact (List.getElem?_eq_some_iff.1 hpv).1
    have hak : args[k]? = some (args[k]'hk) := List.getElem?_eq_getElem hk
    obtain ⟨pv', hpv', hh⟩ := ha k _ hak
    rw [hpv] at hpv'
    cases hpv'
    have hr := hv k _ v hak hvk
    rw [hT1]
    rcases hh with hh | ⟨xs, z, e, rfl, h1, h2, h3⟩
    · have hst : St (FX X ow S.toks) w (FX X (owDrop ow β) T1) w := fun γ o u a b => ⟨a, fun c => b (hFF1 γ o c)⟩
      exact .p ((hr.toPV hh).mono hst)
    · rw [e] at hr
      exact .p (rs_rep hM hFF1 hb hFb hr h1 h2 h3)
  have hac : ACall P f (pvs.map .p) S1 fun r' S' => r' = .p r ∧ S' = S1 := by
    refine PFun.acall (pvs := pvs) h ?_ ⟨rfl, rfl⟩
    clear ha hl hreps
    induction pvs with
    | nil => rfl
    | cons x l ih =>
      show mapO RV.toPV (RV.p x :: l.map RV.p) = _
      have hl : mapO RV.toPV (l.map RV.p) = some l := by
        have := mapO_map (f := RV.toPV) (g := RV.p) (h := id) (fun x => rfl) l
        simpa using this
      simp only [mapO, hl]
      rfl
  refine (hac.2 X (owDrop ow β) w vs hM1 (by rw [hs, hl]; simp) hreps).mono ?_
  rintro e w' ⟨v, r', S', ow', rfl, ⟨rfl, rfl⟩, hM', hr', tr2, hloc⟩
  have hl0 : S'.loc = [] := by rw [← hS1]; exact hS
  have hno' : noLoc ow' := fun γ d hγ => by
    have := hM'.locin γ d hγ
    rw [hl0, locGet_nil] at this
    cases this
  rw [hT1] at tr2
  refine ⟨v, .p r, S', ow', rfl, ⟨rfl, by rw [← hS1, ← hT]⟩, hl0, hM', hno', hr', ?_⟩
  rw [hT1]
  exact tr1.trans tr2
end
end Go.Ag
/- The abstract code of the functions that are walked through. -/
namespace Go.Ag
open Go
set_option linter.unusedVariables false
/- gatewarden/gatekeep2.HealthIsByItself -/
def h_7 : FHint := hn [10, 19] [] [] [(0, [0]), (1, [3]), (2, [3, 4, 5]), (3, [4, 5, 6]), (4, [4, 5, 6, 7, 8]), (5, [4, 5, 6, 7, 8, 40]), (6, [2]), (7, [4, 5, 6, 7, 52]), (8, [2]), (9, [4, 5, 6, 7, 53, 54, 55]), (10, [4, 5, 6, 7, 53, 54, 55, 56]), (11, [4, 5, 6, 7, 10, 53, 54, 55]), (12, [4, 5, 6, 7, 10, 11, 53, 54, 55]), (13, [4, 5, 6, 7, 10, 12, 13, 53, 54, 55]), (14, [4, 5, 6, 7, 12, 13, 14, 53, 54, 55]), (15, [4, 5, 6, 7, 14, 53, 54, 55, 81]), (16, [2]), (17, [4, 5, 6, 7, 53, 54, 55, 82, 83, 84]), (18, [4, 5, 6, 7, 53, 54, 55, 82, 83, 84, 85]), (19, [4, 5, 6, 7, 15, 16, 53, 54, 55, 82, 83, 84]), (20, [4, 5, 6, 7, 53, 54, 55, 82, 83, 84, 94]), (21, [2]), (22, [4, 5, 6, 7, 53, 54, 55, 82, 83, 84]), (23, [4, 5, 6, 7, 53, 54, 55]), (24, [2])] [(10, [4, 5, 6, 7, 53, 54, 55]), (18, [4, 5, 6, 7, 53, 54, 55, 82, 83, 84])]
def ir_7_l0 : IR :=
 (.seq
  (.ops [
    ⟨(some 85), .op (.bin .lss .num), [.r 84, .r 83], none⟩] (some [4, 5, 6, 7, 53, 54, 55, 82, 83, 84, 85]))
  (.seq
   (.cond (.r 85)
    .skip
    (.exit 2))
   (.seq
    (.block 3
     (.seq
      (.ops [
        ⟨(some 86), .op (.mv), [.r 84], none⟩,
        ⟨(some 87), .op (.ia 3), [.r 82, .r 84], none⟩,
        ⟨(some 88), .op (.ld (some 3)), [.r 87], none⟩,
        ⟨(some 16), .op (.allocL 16 [(.p (.int .i64 0)), (.p (.str [])), (.p (.bool false))]), [], none⟩,
        ⟨(some 15), .op (.mv), [.r 86], none⟩,
        ⟨none, .op (.st 3), [.r 16, .r 88], none⟩] (some [4, 5, 6, 7, 15, 16, 53, 54, 55, 82, 83, 84]))
      (.seq
       (.ops [
         ⟨(some 89), .op (.fa 2), [.r 16], none⟩,
         ⟨(some 90), .op (.ld none), [.r 89], none⟩,
         ⟨(some 91), .op (.mv), [.r 15], none⟩,
         ⟨(some 92), .op (.bin .rem .num), [.r 91, .k (.p (.int .i64 2))], none⟩,
         ⟨(some 93), .op (.bin .eql .num), [.r 92, .k (.p (.int .i64 1))], none⟩,
         ⟨(some 94), .op (.bin .neq .bool), [.r 90, .r 93], none⟩] (some [4, 5, 6, 7, 53, 54, 55, 82, 83, 84, 94]))
       (.cond (.r 94)
        (.seq
         (.ops [
           ⟨(some 2), .op (.mv), [.k (.p (.bool false))], none⟩] (some [2]))
         .ret)
        .skip))))
    (.ops [
      ⟨(some 95), .op (.bin .add .num), [.r 84, .k (.p (.int .i64 1))], none⟩,
      ⟨(some 84), .op (.mv), [.r 95], none⟩] (some [4, 5, 6, 7, 53, 54, 55, 82, 83, 84])))))
def ir_7_l1 : IR :=
 (.seq
  (.ops [
    ⟨(some 56), .op (.bin .lss .num), [.r 55, .r 54], none⟩] (some [4, 5, 6, 7, 53, 54, 55, 56]))
  (.seq
   (.cond (.r 56)
    .skip
    (.exit 0))
   (.seq
    (.block 1
     (.seq
      (.ops [
        ⟨(some 57), .op (.ia 2), [.r 53, .r 55], none⟩,
        ⟨(some 58), .op (.ld (some 2)), [.r 57], none⟩,
        ⟨(some 10), .op (.allocH 76 [(.p (.str [])), (.p (.int .i64 0))]), [], none⟩,
        ⟨none, .op (.st 2), [.r 10, .r 58], none⟩] (some [4, 5, 6, 7, 10, 53, 54, 55]))
      (.seq
       (.ops [
         ⟨(some 59), .op (.mv), [.r 6], none⟩,
         ⟨(some 60), .call 38, [.r 59], none⟩,
         ⟨(some 61), .op (.mkfn 39 0), [.r 10], none⟩,
         ⟨(some 62), .call 37, [.r 60, .r 61], none⟩,
         ⟨(some 11), .op (.mv), [.r 62], none⟩] (some [4, 5, 6, 7, 10, 11, 53, 54, 55]))
       (.seq
        (.ops [
          ⟨(some 64), .op (.mv), [.r 4], none⟩,
          ⟨(some 65), .op (.ld (some 2)), [.r 5], none⟩,
          ⟨(some 66), .op (.mv), [.r 11], none⟩,
          ⟨(some 67), .callP 35, [.r 64, .r 65, .r 66], none⟩,
          ⟨(some 63), .op (.mv), [.r 67], none⟩,
          ⟨(some 68), .op (.ext 0), [.r 63], none⟩,
          ⟨(some 69), .op (.ext 1), [.r 63], none⟩,
          ⟨(some 12), .op (.mv), [.r 68], none⟩,
          ⟨(some 13), .op (.mv), [.r 69], none⟩] (some [4, 5, 6, 7, 10, 12, 13, 53, 54, 55]))
        (.seq
         (.ops [
           ⟨(some 70), .op (.mv), [.r 7], none⟩,
           ⟨(some 71), .call 41, [.r 70], none⟩,
           ⟨(some 72), .op (.mkfn 42 0), [.r 10], none⟩,
           ⟨(some 73), .call 40, [.r 71, .r 72], none⟩,
           ⟨(some 14), .op (.mv), [.r 73], none⟩] (some [4, 5, 6, 7, 12, 13, 14, 53, 54, 55]))
         (.seq
          (.seq
           (.ops [
             ⟨(some 74), .op (.mv), [.r 13], none⟩,
             ⟨(some 75), .op (.bin .neq .num), [.r 74, .k (.p (.int .i64 0))], none⟩,
             ⟨(some 76), .op (.mv), [.r 75], none⟩,
             ⟨(some 77), .op (.mv), [.r 12], (some (76, false))⟩,
             ⟨(some 78), .op (.mv), [.r 14], (some (76, false))⟩,
             ⟨(some 79), .callP 43, [.r 77, .r 78], (some (76, false))⟩,
             ⟨(some 80), .op (.un .not), [.r 79], (some (76, false))⟩,
             ⟨(some 81), .op (.pick), [.r 76, .k (.p (.bool true)), .r 80], none⟩] (some [4, 5, 6, 7, 14, 53, 54, 55, 81]))
           (.cond (.r 81)
            (.seq
             (.ops [
               ⟨(some 2), .op (.mv), [.k (.p (.bool false))], none⟩] (some [2]))
             .ret)
            .skip))
          (.seq
           (.ops [
             ⟨(some 82), .op (.mv), [.r 14], none⟩,
             ⟨(some 83), .op (.lenl), [.r 82], none⟩,
             ⟨(some 84), .op (.mv), [.k (.p (.int .i64 0))], none⟩] (some [4, 5, 6, 7, 53, 54, 55, 82, 83, 84]))
           (.block 2
            (.loop (some [4, 5, 6, 7, 53, 54, 55, 82, 83, 84]) ir_7_l0)))))))))
    (.ops [
      ⟨(some 96), .op (.bin .add .num), [.r 55, .k (.p (.int .i64 1))], none⟩,
      ⟨(some 55), .op (.mv), [.r 96], none⟩] (some [4, 5, 6, 7, 53, 54, 55])))))
def ir_7 : IFun := ⟨98, [.t 2],
 (.seq
  (.ops [
    ⟨(some 2), .op (.mv), [.k (.p (.bool false))], none⟩] (some [0]))
  (.seq
   (.ops [
     ⟨(some 17), .op (.mv), [.r 0], none⟩,
     ⟨(some 18), .op (.build [(.nsl true), (.p (.int .i64 0))] [(0, 1), (1, 1)] [0]), [.r 17], none⟩,
     ⟨(some 19), .op (.boxH 25), [.r 18], none⟩,
     ⟨(some 3), .op (.mv), [.r 19], none⟩] (some [3]))
   (.seq
    (.ops [
      ⟨(some 20), .op (.mv), [.r 3], none⟩,
      ⟨(some 21), .call 33, [.r 20], none⟩,
      ⟨(some 22), .op (.mv), [.r 3], none⟩,
      ⟨(some 23), .call 13, [.r 22, .k (.p (.int .i64 1)), .k (.p (.int .i64 3))], none⟩,
      ⟨(some 24), .op (.mv), [.r 3], none⟩,
      ⟨(some 25), .call 13, [.r 24, .k (.p (.int .i64 1)), .k (.p (.int .i64 3))], none⟩,
      ⟨(some 26), .op (.build [(.p (.int .i64 0)), (.p (.int .i64 0))] [(0, 1), (1, 1)] [0, 1]), [.r 23, .r 25], none⟩,
      ⟨(some 5), .op (.allocL 5 [(.p (.int .i64 0)), (.p (.int .i64 0))]), [], none⟩,
      ⟨(some 4), .op (.mv), [.r 21], none⟩,
      ⟨none, .op (.st 2), [.r 5, .r 26], none⟩] (some [3, 4, 5]))
    (.seq
     (.ops [
       ⟨(some 27), .op (.mv), [.r 3], none⟩,
       ⟨(some 28), .op (.mv), [.r 4], none⟩,
       ⟨(some 29), .call 34, [.r 27, .r 28], none⟩,
       ⟨(some 6), .op (.mv), [.r 29], none⟩] (some [4, 5, 6]))
     (.seq
      (.ops [
        ⟨(some 31), .op (.mv), [.r 4], none⟩,
        ⟨(some 32), .op (.ld (some 2)), [.r 5], none⟩,
        ⟨(some 33), .op (.mv), [.r 6], none⟩,
        ⟨(some 34), .callP 35, [.r 31, .r 32, .r 33], none⟩,
        ⟨(some 30), .op (.mv), [.r 34], none⟩,
        ⟨(some 35), .op (.ext 0), [.r 30], none⟩,
        ⟨(some 36), .op (.ext 1), [.r 30], none⟩,
        ⟨(some 7), .op (.mv), [.r 35], none⟩,
        ⟨(some 8), .op (.mv), [.r 36], none⟩] (some [4, 5, 6, 7, 8]))
      (.seq
       (.seq
        (.ops [
          ⟨(some 37), .op (.mv), [.r 4], none⟩,
          ⟨(some 38), .op (.mv), [.r 6], none⟩,
          ⟨(some 39), .callP 36, [.r 37, .r 38], none⟩,
          ⟨(some 40), .op (.bin .neq .num), [.r 39, .k (.p (.int .i64 0))], none⟩] (some [4, 5, 6, 7, 8, 40]))
        (.cond (.r 40)
         (.seq
          (.ops [
            ⟨(some 41), .op (.mv), [.r 8], none⟩,
            ⟨(some 42), .op (.bin .neq .num), [.r 41, .k (.p (.int .i64 0))], none⟩,
            ⟨(some 43), .op (.mv), [.r 42], none⟩,
            ⟨(some 44), .op (.mv), [.r 7], (some (43, true))⟩,
            ⟨(some 45), .op (.lenl), [.r 44], (some (43, true))⟩,
            ⟨(some 46), .op (.bin .eql .num), [.r 45, .k (.p (.int .i64 0))], (some (43, true))⟩,
            ⟨(some 47), .op (.pick), [.r 43, .r 46, .k (.p (.bool false))], none⟩,
            ⟨(some 48), .op (.mv), [.r 47], none⟩,
            ⟨(some 49), .callP 16, [], (some (48, true))⟩,
            ⟨(some 50), .op (.pick), [.r 48, .r 49, .k (.p (.bool false))], none⟩,
            ⟨(some 2), .op (.mv), [.r 50], none⟩] (some [2]))
          .ret)
         .skip))
       (.seq
        (.seq
         (.ops [
           ⟨(some 51), .op (.mv), [.r 8], none⟩,
           ⟨(some 52), .op (.bin .neq .num), [.r 51, .k (.p (.int .i64 0))], none⟩] (some [4, 5, 6, 7, 52]))
         (.cond (.r 52)
          (.seq
           (.ops [
             ⟨(some 2), .op (.mv), [.k (.p (.bool false))], none⟩] (some [2]))
           .ret)
          .skip))
        (.seq
         (.seq
          (.ops [
            ⟨(some 53), .op (.mv), [.r 4], none⟩,
            ⟨(some 54), .op (.lenl), [.r 53], none⟩,
            ⟨(some 55), .op (.mv), [.k (.p (.int .i64 0))], none⟩] (some [4, 5, 6, 7, 53, 54, 55]))
          (.block 0
           (.loop (some [4, 5, 6, 7, 53, 54, 55]) ir_7_l1)))
         (.seq
          (.ops [
            ⟨(some 97), .callP 16, [], none⟩,
            ⟨(some 2), .op (.mv), [.r 97], none⟩] (some [2]))
          .ret)))))))))⟩
theorem tr_7 : trFn Go.Proofs.Tryz.prog h_7 Go.Proofs.Tryz.f7 = some ir_7 := by kernel_rfl
theorem walk_7 {args : List RV} {S : Mem} {Q : RV → Mem → Prop} (hS : S.loc = []) (ha : args.length ≤ 98) (h : fnF false Go.Proofs.Tryz.prog ir_7 args S Q) : SC Go.Proofs.Tryz.prog 7 args S Q := SC.walk mix Go.Proofs.Tryz.func7 tr_7 hS ha h
theorem walkO_7 {args : List RV} {S : Mem} {Q : RV → Mem → Prop} (hS : S.loc = []) (ha : args.length ≤ 98) (h : fnF true Go.Proofs.Tryz.prog ir_7 args S Q) : SC Go.Proofs.Tryz.prog 7 args S Q := SC.walk mix Go.Proofs.Tryz.func7 tr_7 hS ha h
/- (*gatewarden/gatemake.Stream).RightInstances -/
def h_33 : FHint := hn [] [] [] [(0, [0]), (1, [0, 3]), (2, [0, 3, 6, 7, 8]), (3, [0, 3, 6, 7, 8, 9]), (4, [0, 3, 5, 6, 7, 8]), (5, [0, 3, 5, 6, 7, 8, 23]), (6, [0, 3, 6, 7, 8]), (7, [0, 3, 6, 7, 8]), (8, [2])] [(3, [0, 3, 6, 7, 8])]
def ir_33_l0 : IR :=
 (.seq
  (.ops [
    ⟨(some 9), .op (.bin .lss .num), [.r 8, .r 7], none⟩] (some [0, 3, 6, 7, 8, 9]))
  (.seq
   (.cond (.r 9)
    .skip
    (.exit 0))
   (.seq
    (.block 1
     (.seq
      (.ops [
        ⟨(some 10), .op (.ia 1), [.r 6, .r 8], none⟩,
        ⟨(some 11), .op (.ld none), [.r 10], none⟩,
        ⟨(some 5), .op (.mv), [.r 11], none⟩] (some [0, 3, 5, 6, 7, 8]))
      (.seq
       (.ops [
         ⟨(some 12), .op (.mv), [.r 3], none⟩,
         ⟨(some 13), .op (.lenl), [.r 12], none⟩,
         ⟨(some 14), .op (.bin .eql .num), [.r 13, .k (.p (.int .i64 0))], none⟩,
         ⟨(some 15), .op (.mv), [.r 14], none⟩,
         ⟨(some 16), .op (.mv), [.r 5], (some (15, true))⟩,
         ⟨(some 17), .op (.bin .eql .num), [.r 16, .k (.p (.str [105, 100]))], (some (15, true))⟩,
         ⟨(some 18), .op (.pick), [.r 15, .r 17, .k (.p (.bool false))], none⟩,
         ⟨(some 19), .op (.mv), [.r 18], none⟩,
         ⟨(some 20), .op (.mv), [.r 0], (some (19, false))⟩,
         ⟨(some 21), .call 12, [.r 20, .k (.p (.int .i64 4))], (some (19, false))⟩,
         ⟨(some 22), .op (.un .not), [.r 21], (some (19, false))⟩,
         ⟨(some 23), .op (.pick), [.r 19, .k (.p (.bool true)), .r 22], none⟩] (some [0, 3, 5, 6, 7, 8, 23]))
       (.cond (.r 23)
        (.ops [
          ⟨(some 24), .op (.mv), [.r 3], none⟩,
          ⟨(some 25), .op (.mv), [.r 5], none⟩,
          ⟨(some 26), .op (.mv), [.r 0], none⟩,
          ⟨(some 27), .op (.bsl 1), [.k (.p (.int .i64 1)), .k (.p (.int .i64 1)), .k (.p (.int .i64 2)), .k (.p (.int .i64 3)), .k (.p (.int .i64 5))], none⟩,
          ⟨(some 28), .call 51, [.r 26, .r 27], none⟩,
          ⟨(some 29), .op (.build [(.p (.str [])), (.p (.int .i64 0))] [(0, 1), (1, 1)] [0, 1]), [.r 25, .r 28], none⟩,
          ⟨(some 30), .op (.bsl 2), [.r 29], none⟩,
          ⟨(some 31), .op (.app 2 76 24 false), [.r 24, .r 30], none⟩,
          ⟨(some 3), .op (.mv), [.r 31], none⟩] (some [0, 3, 6, 7, 8]))
        .skip))))
    (.ops [
      ⟨(some 32), .op (.bin .add .num), [.r 8, .k (.p (.int .i64 1))], none⟩,
      ⟨(some 8), .op (.mv), [.r 32], none⟩] (some [0, 3, 6, 7, 8])))))
def ir_33 : IFun := ⟨34, [.t 2],
 (.seq
  (.ops [
    ⟨(some 2), .op (.mv), [.k (.nsl true)], none⟩] (some [0]))
  (.seq
   (.ops [
     ⟨(some 3), .op (.mv), [.k (.nsl true)], none⟩] (some [0, 3]))
   (.seq
    (.seq
     (.ops [
       ⟨(some 6), .op (.bsl 1), [.k (.p (.str [105, 97])), .k (.p (.str [105, 98])), .k (.p (.str [105, 99])), .k (.p (.str [105, 100]))], none⟩,
       ⟨(some 7), .op (.lenl), [.r 6], none⟩,
       ⟨(some 8), .op (.mv), [.k (.p (.int .i64 0))], none⟩] (some [0, 3, 6, 7, 8]))
     (.block 0
      (.loop (some [0, 3, 6, 7, 8]) ir_33_l0)))
    (.seq
     (.ops [
       ⟨(some 33), .op (.mv), [.r 3], none⟩,
       ⟨(some 2), .op (.mv), [.r 33], none⟩] (some [2]))
     .ret))))⟩
theorem tr_33 : trFn Go.Proofs.Tryz.prog h_33 Go.Proofs.Tryz.f33 = some ir_33 := by kernel_rfl
theorem walk_33 {args : List RV} {S : Mem} {Q : RV → Mem → Prop} (hS : S.loc = []) (ha : args.length ≤ 34) (h : fnF false Go.Proofs.Tryz.prog ir_33 args S Q) : SC Go.Proofs.Tryz.prog 33 args S Q := SC.walk mix Go.Proofs.Tryz.func33 tr_33 hS ha h
/- (*gatewarden/gatemake.Stream).Probes -/
def h_34 : FHint := hn [] [] [] [(0, [0, 1]), (1, [0, 1, 5]), (2, [0, 1, 5, 6]), (3, [0, 1, 5, 6, 9, 10]), (4, [0, 1, 5, 6, 9, 10, 11]), (5, [0, 1, 5, 6, 9, 10]), (6, [0, 1, 5, 6, 7, 9, 10]), (7, [0, 1, 5, 6, 7, 9, 10, 30]), (8, [0, 1, 5, 6, 7, 9, 10]), (9, [0, 1, 5, 6, 7, 9, 10, 41]), (10, [0, 1, 5, 6, 7, 9, 10]), (11, [0, 1, 5, 6, 9, 10]), (12, [0, 1, 5, 6, 9, 10]), (13, [4])] [(4, [0, 1, 5, 6, 9, 10])]
def ir_34_l0 : IR :=
 (.seq
  (.ops [
    ⟨(some 11), .op (.bin .lss .num), [.r 10, .r 9], none⟩] (some [0, 1, 5, 6, 9, 10, 11]))
  (.seq
   (.cond (.r 11)
    .skip
    (.exit 0))
   (.seq
    (.block 1
     (.seq
      (.ops [
        ⟨(some 12), .op (.mv), [.r 6], none⟩,
        ⟨(some 13), .op (.mv), [.r 0], none⟩,
        ⟨(some 14), .op (.bsl 1), [.k (.p (.int .i64 0)), .k (.p (.int .i64 1)), .k (.p (.int .i64 5)), .k (.p (.int .i64 10))], none⟩,
        ⟨(some 15), .call 51, [.r 13, .r 14], none⟩,
        ⟨(some 16), .op (.bin .add .num), [.r 12, .r 15], none⟩,
        ⟨(some 6), .op (.mv), [.r 16], none⟩] (some [0, 1, 5, 6, 9, 10]))
      (.seq
       (.ops [
         ⟨(some 17), .op (.mv), [.r 6], none⟩,
         ⟨(some 18), .op (.mv), [.r 0], none⟩,
         ⟨(some 19), .call 91, [.r 18], none⟩,
         ⟨(some 20), .op (.mv), [.r 0], none⟩,
         ⟨(some 21), .call 12, [.r 20, .k (.p (.int .i64 2))], none⟩,
         ⟨(some 22), .op (.build [(.p (.int .i64 0)), (.p (.str [])), (.p (.bool false))] [(0, 1), (1, 1), (2, 1)] [0, 1, 2]), [.r 17, .r 19, .r 21], none⟩,
         ⟨(some 7), .op (.allocL 7 [(.p (.int .i64 0)), (.p (.str [])), (.p (.bool false))]), [], none⟩,
         ⟨none, .op (.st 3), [.r 7, .r 22], none⟩] (some [0, 1, 5, 6, 7, 9, 10]))
       (.seq
        (.seq
         (.ops [
           ⟨(some 23), .op (.mv), [.r 1], none⟩,
           ⟨(some 24), .op (.lenl), [.r 23], none⟩,
           ⟨(some 25), .op (.bin .gtr .num), [.r 24, .k (.p (.int .i64 0))], none⟩,
           ⟨(some 26), .op (.mv), [.r 25], none⟩,
           ⟨(some 27), .op (.mv), [.r 0], (some (26, true))⟩,
           ⟨(some 28), .call 12, [.r 27, .k (.p (.int .i64 60))], (some (26, true))⟩,
           ⟨(some 29), .op (.un .not), [.r 28], (some (26, true))⟩,
           ⟨(some 30), .op (.pick), [.r 26, .r 29, .k (.p (.bool false))], none⟩] (some [0, 1, 5, 6, 7, 9, 10, 30]))
         (.cond (.r 30)
          (.ops [
            ⟨(some 31), .op (.mv), [.r 1], none⟩,
            ⟨(some 32), .op (.mv), [.r 0], none⟩,
            ⟨(some 33), .op (.mv), [.r 1], none⟩,
            ⟨(some 34), .op (.lenl), [.r 33], none⟩,
            ⟨(some 35), .call 62, [.r 32, .r 34], none⟩,
            ⟨(some 36), .op (.ia 2), [.r 31, .r 35], none⟩,
            ⟨(some 37), .op (.fa 0), [.r 36], none⟩,
            ⟨(some 38), .op (.ld none), [.r 37], none⟩,
            ⟨(some 39), .op (.fa 1), [.r 7], none⟩,
            ⟨none, .op (.st 1), [.r 39, .r 38], none⟩] (some [0, 1, 5, 6, 7, 9, 10]))
          .skip))
        (.seq
         (.seq
          (.ops [
            ⟨(some 40), .op (.mv), [.r 0], none⟩,
            ⟨(some 41), .call 12, [.r 40, .k (.p (.int .i64 80))], none⟩] (some [0, 1, 5, 6, 7, 9, 10, 41]))
          (.cond (.r 41)
           (.ops [
             ⟨(some 42), .op (.mv), [.r 0], none⟩,
             ⟨(some 43), .call 92, [.r 42, .k (.p (.int .i64 0)), .k (.p (.int .i64 50))], none⟩,
             ⟨(some 44), .op (.fa 0), [.r 7], none⟩,
             ⟨none, .op (.st 1), [.r 44, .r 43], none⟩] (some [0, 1, 5, 6, 7, 9, 10]))
           .skip))
         (.ops [
           ⟨(some 45), .op (.mv), [.r 5], none⟩,
           ⟨(some 46), .op (.ld (some 3)), [.r 7], none⟩,
           ⟨(some 47), .op (.bsl 3), [.r 46], none⟩,
           ⟨(some 48), .op (.app 3 79 32 false), [.r 45, .r 47], none⟩,
           ⟨(some 5), .op (.mv), [.r 48], none⟩] (some [0, 1, 5, 6, 9, 10])))))))
    (.ops [
      ⟨(some 49), .op (.bin .add .num), [.r 10, .k (.p (.int .i64 1))], none⟩,
      ⟨(some 10), .op (.mv), [.r 49], none⟩] (some [0, 1, 5, 6, 9, 10])))))
def ir_34 : IFun := ⟨51, [.t 4],
 (.seq
  (.ops [
    ⟨(some 4), .op (.mv), [.k (.nsl true)], none⟩] (some [0, 1]))
  (.seq
   (.ops [
     ⟨(some 5), .op (.mv), [.k (.nsl true)], none⟩] (some [0, 1, 5]))
   (.seq
    (.ops [
      ⟨(some 6), .op (.mv), [.k (.p (.int .i64 0))], none⟩] (some [0, 1, 5, 6]))
    (.seq
     (.seq
      (.ops [
        ⟨(some 8), .op (.mv), [.r 0], none⟩,
        ⟨(some 9), .call 13, [.r 8, .k (.p (.int .i64 0)), .k (.p (.int .i64 16))], none⟩,
        ⟨(some 10), .op (.mv), [.k (.p (.int .i64 0))], none⟩] (some [0, 1, 5, 6, 9, 10]))
      (.block 0
       (.loop (some [0, 1, 5, 6, 9, 10]) ir_34_l0)))
     (.seq
      (.ops [
        ⟨(some 50), .op (.mv), [.r 5], none⟩,
        ⟨(some 4), .op (.mv), [.r 50], none⟩] (some [4]))
      .ret)))))⟩
theorem tr_34 : trFn Go.Proofs.Tryz.prog h_34 Go.Proofs.Tryz.f34 = some ir_34 := by kernel_rfl
theorem walk_34 {args : List RV} {S : Mem} {Q : RV → Mem → Prop} (hS : S.loc = []) (ha : args.length ≤ 51) (h : fnF false Go.Proofs.Tryz.prog ir_34 args S Q) : SC Go.Proofs.Tryz.prog 34 args S Q := SC.walk mix Go.Proofs.Tryz.func34 tr_34 hS ha h
/- (*gatewarden/gatemake.Stream).InstanceKey -/
def h_91 : FHint := hn [] [] [] [(0, [0]), (1, [0, 4]), (2, [2]), (3, [2])] []
def ir_91 : IFun := ⟨11, [.t 2],
 (.seq
  (.ops [
    ⟨(some 2), .op (.mv), [.k (.p (.str []))], none⟩] (some [0]))
  (.seq
   (.seq
    (.ops [
      ⟨(some 3), .op (.mv), [.r 0], none⟩,
      ⟨(some 4), .call 12, [.r 3, .k (.p (.int .i64 40))], none⟩] (some [0, 4]))
    (.cond (.r 4)
     (.seq
      (.ops [
        ⟨(some 5), .op (.mv), [.r 0], none⟩,
        ⟨(some 6), .op (.bsl 1), [.k (.p (.str [])), .k (.p (.str [110, 111, 110, 101]))], none⟩,
        ⟨(some 7), .call 18, [.r 5, .r 6], none⟩,
        ⟨(some 2), .op (.mv), [.r 7], none⟩] (some [2]))
      .ret)
     .skip))
   (.seq
    (.ops [
      ⟨(some 8), .op (.mv), [.r 0], none⟩,
      ⟨(some 9), .op (.bsl 1), [.k (.p (.str [105, 97])), .k (.p (.str [105, 98])), .k (.p (.str [105, 99])), .k (.p (.str [105, 100]))], none⟩,
      ⟨(some 10), .call 18, [.r 8, .r 9], none⟩,
      ⟨(some 2), .op (.mv), [.r 10], none⟩] (some [2]))
    .ret)))⟩
theorem tr_91 : trFn Go.Proofs.Tryz.prog h_91 Go.Proofs.Tryz.f91 = some ir_91 := by kernel_rfl
theorem walk_91 {args : List RV} {S : Mem} {Q : RV → Mem → Prop} (hS : S.loc = []) (ha : args.length ≤ 11) (h : fnF false Go.Proofs.Tryz.prog ir_91 args S Q) : SC Go.Proofs.Tryz.prog 91 args S Q := SC.walk mix Go.Proofs.Tryz.func91 tr_91 hS ha h
/- (*gatewarden/gatemake.Stream).Odd -/
def h_92 : FHint := hn [] [] [] [(0, [0, 1, 2]), (1, [0, 1, 2, 8]), (2, [6]), (3, [6])] []
def ir_92 : IFun := ⟨22, [.t 6],
 (.seq
  (.ops [
    ⟨(some 6), .op (.mv), [.k (.p (.int .i64 0))], none⟩] (some [0, 1, 2]))
  (.seq
   (.seq
    (.ops [
      ⟨(some 7), .op (.mv), [.r 0], none⟩,
      ⟨(some 8), .call 12, [.r 7, .k (.p (.int .i64 12))], none⟩] (some [0, 1, 2, 8]))
    (.cond (.r 8)
     (.seq
      (.ops [
        ⟨(some 9), .op (.mv), [.r 0], none⟩,
        ⟨(some 10), .op (.mv), [.r 1], none⟩,
        ⟨(some 11), .op (.bin .sub .num), [.r 10, .k (.p (.int .i64 1))], none⟩,
        ⟨(some 12), .op (.mv), [.r 2], none⟩,
        ⟨(some 13), .op (.bin .add .num), [.r 12, .k (.p (.int .i64 1))], none⟩,
        ⟨(some 14), .op (.mv), [.r 1], none⟩,
        ⟨(some 15), .op (.mv), [.r 2], none⟩,
        ⟨(some 16), .op (.bsl 1), [.r 11, .r 13, .r 14, .r 15, .k (.p (.int .i64 (-1099511627776))), .k (.p (.int .i64 1099511627776))], none⟩,
        ⟨(some 17), .call 51, [.r 9, .r 16], none⟩,
        ⟨(some 6), .op (.mv), [.r 17], none⟩] (some [6]))
      .ret)
     .skip))
   (.seq
    (.ops [
      ⟨(some 18), .op (.mv), [.r 0], none⟩,
      ⟨(some 19), .op (.mv), [.r 1], none⟩,
      ⟨(some 20), .op (.mv), [.r 2], none⟩,
      ⟨(some 21), .call 13, [.r 18, .r 19, .r 20], none⟩,
      ⟨(some 6), .op (.mv), [.r 21], none⟩] (some [6]))
    .ret)))⟩
theorem tr_92 : trFn Go.Proofs.Tryz.prog h_92 Go.Proofs.Tryz.f92 = some ir_92 := by kernel_rfl
theorem walk_92 {args : List RV} {S : Mem} {Q : RV → Mem → Prop} (hS : S.loc = []) (ha : args.length ≤ 22) (h : fnF false Go.Proofs.Tryz.prog ir_92 args S Q) : SC Go.Proofs.Tryz.prog 92 args S Q := SC.walk mix Go.Proofs.Tryz.func92 tr_92 hS ha h
/- gatewarden/upstream.Turns -/
def h_35 : FHint := hn [] [] [] [(0, [0, 2, 4]), (1, [0, 2, 4, 8]), (2, [0, 2, 4, 8, 16]), (3, [6, 7]), (4, [9]), (5, [6, 7])] []
def ir_35 : IFun := ⟨26, [.t 6, .t 7],
 (.seq
  (.ops [
    ⟨(some 4), .op (.boxL 4), [.r 1], none⟩,
    ⟨(some 6), .op (.mv), [.k (.nsl true)], none⟩,
    ⟨(some 7), .op (.mv), [.k (.p (.int .i64 0))], none⟩] (some [0, 2, 4]))
  (.seq
   (.seq
    (.ops [
      ⟨(some 11), .op (.mv), [.r 0], none⟩,
      ⟨(some 12), .op (.ld (some 2)), [.r 4], none⟩,
      ⟨(some 13), .op (.mv), [.r 2], none⟩,
      ⟨(some 14), .callP 93, [.r 11, .r 12, .r 13], none⟩,
      ⟨(some 8), .op (.mv), [.r 14], none⟩] (some [0, 2, 4, 8]))
    (.seq
     (.ops [
       ⟨(some 15), .op (.mv), [.r 8], none⟩,
       ⟨(some 16), .op (.bin .neq .num), [.r 15, .k (.p (.int .i64 0))], none⟩] (some [0, 2, 4, 8, 16]))
     (.cond (.r 16)
      (.seq
       (.ops [
         ⟨(some 17), .op (.mv), [.r 8], none⟩,
         ⟨(some 6), .op (.mv), [.k (.nsl true)], none⟩,
         ⟨(some 7), .op (.mv), [.r 17], none⟩] (some [6, 7]))
       .ret)
      .skip)))
   (.seq
    (.ops [
      ⟨(some 19), .op (.mv), [.r 0], none⟩,
      ⟨(some 20), .op (.ld (some 2)), [.r 4], none⟩,
      ⟨(some 21), .op (.mv), [.r 2], none⟩,
      ⟨(some 22), .callP 94, [.r 19, .r 20, .r 21, .k (.p (.int .i64 345686400000))], none⟩,
      ⟨(some 18), .op (.mv), [.r 22], none⟩,
      ⟨(some 23), .op (.ext 0), [.r 18], none⟩,
      ⟨(some 24), .op (.ext 1), [.r 18], none⟩,
      ⟨(some 9), .op (.mv), [.r 23], none⟩,
      ⟨(some 10), .op (.mv), [.r 24], none⟩] (some [9]))
    (.seq
     (.ops [
       ⟨(some 25), .op (.mv), [.r 9], none⟩,
       ⟨(some 6), .op (.mv), [.r 25], none⟩,
       ⟨(some 7), .op (.mv), [.k (.p (.int .i64 0))], none⟩] (some [6, 7]))
     .ret))))⟩
theorem tr_35 : trFn Go.Proofs.Tryz.prog h_35 Go.Proofs.Tryz.f35 = some ir_35 := by kernel_rfl
theorem walk_35 {args : List RV} {S : Mem} {Q : RV → Mem → Prop} (hS : S.loc = []) (ha : args.length ≤ 26) (h : fnF false Go.Proofs.Tryz.prog ir_35 args S Q) : SC Go.Proofs.Tryz.prog 35 args S Q := SC.walk mix Go.Proofs.Tryz.func35 tr_35 hS ha h
/- gatewarden/upstream.CheckProbes -/
def h_36 : FHint := hn [] [] [] [(0, [0, 1]), (1, [0, 1, 5]), (2, [0, 1, 5, 13]), (3, [4]), (4, [0, 1, 17]), (5, [4]), (6, [0, 1, 18, 19, 20]), (7, [0, 1, 18, 19, 20, 21]), (8, [0, 1, 6, 7, 18, 19, 20]), (9, [0, 1, 6, 7, 18, 19, 20, 28]), (10, [4]), (11, [0, 1, 6, 7, 9, 18, 19, 20]), (12, [0, 1, 6, 7, 18, 19, 20, 37]), (13, [4]), (14, [0, 1, 18, 19, 20, 50]), (15, [4]), (16, [0, 1, 18, 19, 20]), (17, [4])] [(7, [0, 1, 18, 19, 20])]
def ir_36_l0 : IR :=
 (.seq
  (.ops [
    ⟨(some 21), .op (.bin .lss .num), [.r 20, .r 19], none⟩] (some [0, 1, 18, 19, 20, 21]))
  (.seq
   (.cond (.r 21)
    .skip
    (.exit 0))
   (.seq
    (.block 1
     (.seq
      (.ops [
        ⟨(some 22), .op (.mv), [.r 20], none⟩,
        ⟨(some 23), .op (.ia 3), [.r 18, .r 20], none⟩,
        ⟨(some 24), .op (.ld (some 3)), [.r 23], none⟩,
        ⟨(some 7), .op (.allocL 7 [(.p (.int .i64 0)), (.p (.str [])), (.p (.bool false))]), [], none⟩,
        ⟨(some 6), .op (.mv), [.r 22], none⟩,
        ⟨none, .op (.st 3), [.r 7, .r 24], none⟩] (some [0, 1, 6, 7, 18, 19, 20]))
      (.seq
       (.seq
        (.ops [
          ⟨(some 25), .op (.fa 0), [.r 7], none⟩,
          ⟨(some 26), .op (.ld none), [.r 25], none⟩,
          ⟨(some 27), .callP 96, [.r 26], none⟩,
          ⟨(some 28), .op (.un .not), [.r 27], none⟩] (some [0, 1, 6, 7, 18, 19, 20, 28]))
        (.cond (.r 28)
         (.seq
          (.ops [
            ⟨(some 4), .op (.mv), [.k (.p (.int .i64 1))], none⟩] (some [4]))
          .ret)
         .skip))
       (.seq
        (.seq
         (.ops [
           ⟨(some 30), .op (.mv), [.r 0], none⟩,
           ⟨(some 31), .op (.fa 1), [.r 7], none⟩,
           ⟨(some 32), .op (.ld none), [.r 31], none⟩,
           ⟨(some 33), .callP 97, [.r 30, .r 32], none⟩,
           ⟨(some 29), .op (.mv), [.r 33], none⟩,
           ⟨(some 34), .op (.ext 0), [.r 29], none⟩,
           ⟨(some 35), .op (.ext 1), [.r 29], none⟩,
           ⟨(some 8), .op (.mv), [.r 34], none⟩,
           ⟨(some 9), .op (.mv), [.r 35], none⟩] (some [0, 1, 6, 7, 9, 18, 19, 20]))
         (.seq
          (.ops [
            ⟨(some 36), .op (.mv), [.r 9], none⟩,
            ⟨(some 37), .op (.un .not), [.r 36], none⟩] (some [0, 1, 6, 7, 18, 19, 20, 37]))
          (.cond (.r 37)
           (.seq
            (.ops [
              ⟨(some 4), .op (.mv), [.k (.p (.int .i64 8))], none⟩] (some [4]))
            .ret)
           .skip)))
        (.seq
         (.opsD [
           ⟨(some 38), .op (.mv), [.r 6], none⟩,
           ⟨(some 39), .op (.bin .gtr .num), [.r 38, .k (.p (.int .i64 0))], none⟩,
           ⟨(some 40), .op (.mv), [.r 39], none⟩,
           ⟨(some 41), .op (.fa 0), [.r 7], (some (40, true))⟩,
           ⟨(some 42), .op (.ld none), [.r 41], (some (40, true))⟩,
           ⟨(some 43), .op (.mv), [.r 1], (some (40, true))⟩,
           ⟨(some 44), .op (.mv), [.r 6], (some (40, true))⟩,
           ⟨(some 45), .op (.bin .sub .num), [.r 44, .k (.p (.int .i64 1))], (some (40, true))⟩,
           ⟨(some 46), .op (.ia 3), [.r 43, .r 45], (some (40, true))⟩,
           ⟨(some 47), .op (.fa 0), [.r 46], (some (40, true))⟩,
           ⟨(some 48), .op (.ld none), [.r 47], (some (40, true))⟩,
           ⟨(some 49), .op (.bin .lss .num), [.r 42, .r 48], (some (40, true))⟩,
           ⟨(some 50), .op (.pick), [.r 40, .r 49, .k (.p (.bool false))], none⟩] [] (some [0, 1, 18, 19, 20, 50]))
         (.cond (.r 50)
          (.seq
           (.ops [
             ⟨(some 4), .op (.mv), [.k (.p (.int .i64 7))], none⟩] (some [4]))
           .ret)
          .skip))))))
    (.ops [
      ⟨(some 51), .op (.bin .add .num), [.r 20, .k (.p (.int .i64 1))], none⟩,
      ⟨(some 20), .op (.mv), [.r 51], none⟩] (some [0, 1, 18, 19, 20])))))
def ir_36 : IFun := ⟨52, [.t 4],
 (.seq
  (.ops [
    ⟨(some 4), .op (.mv), [.k (.p (.int .i64 0))], none⟩] (some [0, 1]))
  (.seq
   (.seq
    (.ops [
      ⟨(some 10), .op (.mv), [.r 0], none⟩,
      ⟨(some 11), .callP 95, [.r 10], none⟩,
      ⟨(some 5), .op (.mv), [.r 11], none⟩] (some [0, 1, 5]))
    (.seq
     (.ops [
       ⟨(some 12), .op (.mv), [.r 5], none⟩,
       ⟨(some 13), .op (.bin .neq .num), [.r 12, .k (.p (.int .i64 0))], none⟩] (some [0, 1, 5, 13]))
     (.cond (.r 13)
      (.seq
       (.ops [
         ⟨(some 14), .op (.mv), [.r 5], none⟩,
         ⟨(some 4), .op (.mv), [.r 14], none⟩] (some [4]))
       .ret)
      .skip)))
   (.seq
    (.seq
     (.ops [
       ⟨(some 15), .op (.mv), [.r 1], none⟩,
       ⟨(some 16), .op (.lenl), [.r 15], none⟩,
       ⟨(some 17), .op (.bin .gtr .num), [.r 16, .k (.p (.int .i64 2000))], none⟩] (some [0, 1, 17]))
     (.cond (.r 17)
      (.seq
       (.ops [
         ⟨(some 4), .op (.mv), [.k (.p (.int .i64 2))], none⟩] (some [4]))
       .ret)
      .skip))
    (.seq
     (.seq
      (.ops [
        ⟨(some 18), .op (.mv), [.r 1], none⟩,
        ⟨(some 19), .op (.lenl), [.r 18], none⟩,
        ⟨(some 20), .op (.mv), [.k (.p (.int .i64 0))], none⟩] (some [0, 1, 18, 19, 20]))
      (.block 0
       (.loop (some [0, 1, 18, 19, 20]) ir_36_l0)))
     (.seq
      (.ops [
        ⟨(some 4), .op (.mv), [.k (.p (.int .i64 0))], none⟩] (some [4]))
      .ret)))))⟩
theorem tr_36 : trFn Go.Proofs.Tryz.prog h_36 Go.Proofs.Tryz.f36 = some ir_36 := by kernel_rfl
theorem walk_36 {args : List RV} {S : Mem} {Q : RV → Mem → Prop} (hS : S.loc = []) (ha : args.length ≤ 52) (h : fnF false Go.Proofs.Tryz.prog ir_36 args S Q) : SC Go.Proofs.Tryz.prog 36 args S Q := SC.walk mix Go.Proofs.Tryz.func36 tr_36 hS ha h
/- gatewarden/upstream.healthFault -/
def h_93 : FHint := hn [] [] [] [(0, [0, 2, 4]), (1, [0, 2, 4, 7]), (2, [0, 2, 4, 7, 12]), (3, [6]), (4, [0, 2, 8]), (5, [0, 2, 8, 17]), (6, [6]), (7, [6])] []
def ir_93 : IFun := ⟨22, [.t 6],
 (.seq
  (.ops [
    ⟨(some 4), .op (.boxL 4), [.r 1], none⟩,
    ⟨(some 6), .op (.mv), [.k (.p (.int .i64 0))], none⟩] (some [0, 2, 4]))
  (.seq
   (.seq
    (.ops [
      ⟨(some 9), .op (.mv), [.r 0], none⟩,
      ⟨(some 10), .callP 95, [.r 9], none⟩,
      ⟨(some 7), .op (.mv), [.r 10], none⟩] (some [0, 2, 4, 7]))
    (.seq
     (.ops [
       ⟨(some 11), .op (.mv), [.r 7], none⟩,
       ⟨(some 12), .op (.bin .neq .num), [.r 11, .k (.p (.int .i64 0))], none⟩] (some [0, 2, 4, 7, 12]))
     (.cond (.r 12)
      (.seq
       (.ops [
         ⟨(some 13), .op (.mv), [.r 7], none⟩,
         ⟨(some 6), .op (.mv), [.r 13], none⟩] (some [6]))
       .ret)
      .skip)))
   (.seq
    (.seq
     (.ops [
       ⟨(some 14), .op (.ld (some 2)), [.r 4], none⟩,
       ⟨(some 15), .callP 153, [.r 14], none⟩,
       ⟨(some 8), .op (.mv), [.r 15], none⟩] (some [0, 2, 8]))
     (.seq
      (.ops [
        ⟨(some 16), .op (.mv), [.r 8], none⟩,
        ⟨(some 17), .op (.bin .neq .num), [.r 16, .k (.p (.int .i64 0))], none⟩] (some [0, 2, 8, 17]))
      (.cond (.r 17)
       (.seq
        (.ops [
          ⟨(some 18), .op (.mv), [.r 8], none⟩,
          ⟨(some 6), .op (.mv), [.r 18], none⟩] (some [6]))
        .ret)
       .skip)))
    (.seq
     (.ops [
       ⟨(some 19), .op (.mv), [.r 0], none⟩,
       ⟨(some 20), .op (.mv), [.r 2], none⟩,
       ⟨(some 21), .callP 36, [.r 19, .r 20], none⟩,
       ⟨(some 6), .op (.mv), [.r 21], none⟩] (some [6]))
     .ret))))⟩
theorem tr_93 : trFn Go.Proofs.Tryz.prog h_93 Go.Proofs.Tryz.f93 = some ir_93 := by kernel_rfl
theorem walk_93 {args : List RV} {S : Mem} {Q : RV → Mem → Prop} (hS : S.loc = []) (ha : args.length ≤ 22) (h : fnF false Go.Proofs.Tryz.prog ir_93 args S Q) : SC Go.Proofs.Tryz.prog 93 args S Q := SC.walk mix Go.Proofs.Tryz.func93 tr_93 hS ha h
/- gatewarden/upstream.HealthFault -/
def h_153 : FHint := hn [] [] [] [(0, [1]), (1, [10]), (2, [2]), (3, [2])] []
def ir_153 : IFun := ⟨11, [.t 2],
 (.seq
  (.ops [
    ⟨(some 1), .op (.boxL 1), [.r 0], none⟩,
    ⟨(some 2), .op (.mv), [.k (.p (.int .i64 0))], none⟩] (some [1]))
  (.seq
   (.seq
    (.ops [
      ⟨(some 3), .op (.fa 0), [.r 1], none⟩,
      ⟨(some 4), .op (.ld none), [.r 3], none⟩,
      ⟨(some 5), .callP 65, [.r 4, .k (.p (.int .i64 1)), .k (.p (.int .i64 100))], none⟩,
      ⟨(some 6), .op (.mv), [.r 5], none⟩,
      ⟨(some 7), .op (.fa 1), [.r 1], (some (6, false))⟩,
      ⟨(some 8), .op (.ld none), [.r 7], (some (6, false))⟩,
      ⟨(some 9), .callP 65, [.r 8, .k (.p (.int .i64 1)), .k (.p (.int .i64 100))], (some (6, false))⟩,
      ⟨(some 10), .op (.pick), [.r 6, .k (.p (.bool true)), .r 9], none⟩] (some [10]))
    (.cond (.r 10)
     (.seq
      (.ops [
        ⟨(some 2), .op (.mv), [.k (.p (.int .i64 1))], none⟩] (some [2]))
      .ret)
     .skip))
   (.seq
    (.ops [
      ⟨(some 2), .op (.mv), [.k (.p (.int .i64 0))], none⟩] (some [2]))
    .ret)))⟩
theorem tr_153 : trFn Go.Proofs.Tryz.prog h_153 Go.Proofs.Tryz.f153 = some ir_153 := by kernel_rfl
theorem walk_153 {args : List RV} {S : Mem} {Q : RV → Mem → Prop} (hS : S.loc = []) (ha : args.length ≤ 11) (h : fnF false Go.Proofs.Tryz.prog ir_153 args S Q) : SC Go.Proofs.Tryz.prog 153 args S Q := SC.walk mix Go.Proofs.Tryz.func153 tr_153 hS ha h
/- gatewarden/upstream.turns -/
def h_94 : FHint := hn [] [] [] [(0, [0, 2, 3, 5]), (1, [0, 2, 3, 5, 10]), (2, [0, 2, 3, 5, 10, 11]), (3, [0, 3, 5, 10, 11, 19, 20, 21]), (4, [0, 3, 5, 10, 11, 19, 20, 21, 22]), (5, [0, 3, 5, 10, 11, 13, 19, 20, 21]), (6, [0, 3, 5, 10, 11, 13, 19, 20, 21, 28]), (7, [0, 3, 5, 10, 11, 13, 14, 19, 20, 21]), (8, [0, 3, 5, 10, 11, 13, 14, 19, 20, 21, 42]), (9, [0, 3, 5, 10, 11, 19, 20, 21]), (10, [0, 3, 5, 10, 11, 19, 20, 21]), (11, [8, 9])] [(4, [0, 3, 5, 10, 11, 19, 20, 21])]
def ir_94_l0 : IR :=
 (.seq
  (.ops [
    ⟨(some 22), .op (.bin .lss .num), [.r 21, .r 20], none⟩] (some [0, 3, 5, 10, 11, 19, 20, 21, 22]))
  (.seq
   (.cond (.r 22)
    .skip
    (.exit 0))
   (.seq
    (.block 1
     (.seq
      (.ops [
        ⟨(some 23), .op (.ia 3), [.r 19, .r 21], none⟩,
        ⟨(some 24), .op (.ld (some 3)), [.r 23], none⟩,
        ⟨(some 13), .op (.allocL 13 [(.p (.int .i64 0)), (.p (.str [])), (.p (.bool false))]), [], none⟩,
        ⟨none, .op (.st 3), [.r 13, .r 24], none⟩] (some [0, 3, 5, 10, 11, 13, 19, 20, 21]))
      (.seq
       (.seq
        (.ops [
          ⟨(some 25), .op (.fa 0), [.r 13], none⟩,
          ⟨(some 26), .op (.ld none), [.r 25], none⟩,
          ⟨(some 27), .op (.mv), [.r 3], none⟩,
          ⟨(some 28), .op (.bin .gtr .num), [.r 26, .r 27], none⟩] (some [0, 3, 5, 10, 11, 13, 19, 20, 21, 28]))
        (.cond (.r 28)
         (.exit 0)
         .skip))
       (.seq
        (.ops [
          ⟨(some 30), .op (.mv), [.r 0], none⟩,
          ⟨(some 31), .op (.fa 1), [.r 13], none⟩,
          ⟨(some 32), .op (.ld none), [.r 31], none⟩,
          ⟨(some 33), .callP 97, [.r 30, .r 32], none⟩,
          ⟨(some 29), .op (.mv), [.r 33], none⟩,
          ⟨(some 34), .op (.ext 0), [.r 29], none⟩,
          ⟨(some 35), .op (.ext 1), [.r 29], none⟩,
          ⟨(some 14), .op (.mv), [.r 34], none⟩,
          ⟨(some 15), .op (.mv), [.r 35], none⟩] (some [0, 3, 5, 10, 11, 13, 14, 19, 20, 21]))
        (.seq
         (.opsD [
           ⟨(some 36), .op (.mv), [.r 10], none⟩,
           ⟨(some 37), .op (.mv), [.r 14], none⟩,
           ⟨(some 38), .op (.ia 2), [.r 36, .r 37], none⟩,
           ⟨(some 39), .op (.ld (some 2)), [.r 5], none⟩,
           ⟨(some 40), .op (.fa 2), [.r 13], none⟩,
           ⟨(some 41), .op (.ld none), [.r 40], none⟩,
           ⟨(some 42), .call 154, [.r 38, .r 39, .r 41], none⟩] [] (some [0, 3, 5, 10, 11, 13, 14, 19, 20, 21, 42]))
         (.cond (.r 42)
          (.opsD [
            ⟨(some 43), .op (.mv), [.r 11], none⟩,
            ⟨(some 44), .op (.fa 0), [.r 13], none⟩,
            ⟨(some 45), .op (.ld none), [.r 44], none⟩,
            ⟨(some 46), .op (.fa 1), [.r 13], none⟩,
            ⟨(some 47), .op (.ld none), [.r 46], none⟩,
            ⟨(some 48), .op (.mv), [.r 10], none⟩,
            ⟨(some 49), .op (.mv), [.r 14], none⟩,
            ⟨(some 50), .op (.ia 2), [.r 48, .r 49], none⟩,
            ⟨(some 51), .op (.fa 0), [.r 50], none⟩,
            ⟨(some 52), .op (.ld none), [.r 51], none⟩,
            ⟨(some 53), .op (.un .not), [.r 52], none⟩,
            ⟨(some 54), .op (.build [(.p (.int .i64 0)), (.p (.str [])), (.p (.bool false))] [(0, 1), (1, 1), (2, 1)] [0, 1, 2]), [.r 45, .r 47, .r 53], none⟩,
            ⟨(some 55), .op (.bsl 3), [.r 54], none⟩,
            ⟨(some 56), .op (.app 3 84 32 false), [.r 43, .r 55], none⟩,
            ⟨(some 11), .op (.mv), [.r 56], none⟩] [] (some [0, 3, 5, 10, 11, 19, 20, 21]))
          .skip))))))
    (.ops [
      ⟨(some 57), .op (.bin .add .num), [.r 21, .k (.p (.int .i64 1))], none⟩,
      ⟨(some 21), .op (.mv), [.r 57], none⟩] (some [0, 3, 5, 10, 11, 19, 20, 21])))))
def ir_94 : IFun := ⟨60, [.t 8, .t 9],
 (.seq
  (.ops [
    ⟨(some 5), .op (.boxL 5), [.r 1], none⟩,
    ⟨(some 8), .op (.mv), [.k (.nsl true)], none⟩,
    ⟨(some 9), .op (.mv), [.k (.nsl true)], none⟩] (some [0, 2, 3, 5]))
  (.seq
   (.ops [
     ⟨(some 16), .op (.mv), [.r 0], none⟩,
     ⟨(some 17), .op (.lenl), [.r 16], none⟩,
     ⟨(some 18), .op (.mks 2 228 16 [(.p (.bool false)), (.p (.int .i64 0))]), [.r 17, .r 17], none⟩,
     ⟨(some 10), .op (.mv), [.r 18], none⟩] (some [0, 2, 3, 5, 10]))
   (.seq
    (.ops [
      ⟨(some 11), .op (.mv), [.k (.nsl true)], none⟩] (some [0, 2, 3, 5, 10, 11]))
    (.seq
     (.seq
      (.ops [
        ⟨(some 19), .op (.mv), [.r 2], none⟩,
        ⟨(some 20), .op (.lenl), [.r 19], none⟩,
        ⟨(some 21), .op (.mv), [.k (.p (.int .i64 0))], none⟩] (some [0, 3, 5, 10, 11, 19, 20, 21]))
      (.block 0
       (.loop (some [0, 3, 5, 10, 11, 19, 20, 21]) ir_94_l0)))
     (.seq
      (.ops [
        ⟨(some 58), .op (.mv), [.r 11], none⟩,
        ⟨(some 59), .op (.mv), [.r 10], none⟩,
        ⟨(some 8), .op (.mv), [.r 58], none⟩,
        ⟨(some 9), .op (.mv), [.r 59], none⟩] (some [8, 9]))
      .ret)))))⟩
theorem tr_94 : trFn Go.Proofs.Tryz.prog h_94 Go.Proofs.Tryz.f94 = some ir_94 := by kernel_rfl
theorem walk_94 {args : List RV} {S : Mem} {Q : RV → Mem → Prop} (hS : S.loc = []) (ha : args.length ≤ 60) (h : fnF false Go.Proofs.Tryz.prog ir_94 args S Q) : SC Go.Proofs.Tryz.prog 94 args S Q := SC.walk mix Go.Proofs.Tryz.func94 tr_94 hS ha h
theorem walkO_94 {args : List RV} {S : Mem} {Q : RV → Mem → Prop} (hS : S.loc = []) (ha : args.length ≤ 60) (h : fnF true Go.Proofs.Tryz.prog ir_94 args S Q) : SC Go.Proofs.Tryz.prog 94 args S Q := SC.walk mix Go.Proofs.Tryz.func94 tr_94 hS ha h
/- gatewarden/upstream.CheckInstances -/
def h_95 : FHint := hn [] [] [] [(0, [0]), (1, [0, 7]), (2, [2]), (3, [0, 8, 9, 10]), (4, [0, 8, 9, 10, 11]), (5, [0, 3, 4, 8, 9, 10]), (6, [0, 3, 4, 8, 9, 10, 15]), (8, [0, 4, 8, 9, 10, 20]), (10, [0, 8, 9, 10, 34]), (11, [2]), (9, [2]), (7, [2]), (12, [0, 8, 9, 10]), (13, [2])] [(4, [0, 8, 9, 10])]
def ir_95_l0 : IR :=
 (.seq
  (.ops [
    ⟨(some 11), .op (.bin .lss .num), [.r 10, .r 9], none⟩] (some [0, 8, 9, 10, 11]))
  (.seq
   (.cond (.r 11)
    .skip
    (.exit 0))
   (.seq
    (.block 1
     (.seq
      (.ops [
        ⟨(some 12), .op (.mv), [.r 10], none⟩,
        ⟨(some 13), .op (.ia 2), [.r 8, .r 10], none⟩,
        ⟨(some 14), .op (.ld (some 2)), [.r 13], none⟩,
        ⟨(some 4), .op (.allocL 4 [(.p (.str [])), (.p (.int .i64 0))]), [], none⟩,
        ⟨(some 3), .op (.mv), [.r 12], none⟩,
        ⟨none, .op (.st 2), [.r 4, .r 14], none⟩] (some [0, 3, 4, 8, 9, 10]))
      (.block 2
       (.seq
        (.ops [
          ⟨(some 16), .op (.fa 0), [.r 4], none⟩,
          ⟨(some 17), .op (.ld none), [.r 16], none⟩,
          ⟨(some 18), .callP 155, [.r 17], none⟩,
          ⟨(some 19), .op (.un .not), [.r 18], none⟩,
          ⟨(some 15), .op (.mv), [.r 19], none⟩] (some [0, 3, 4, 8, 9, 10, 15]))
        (.cond (.r 15)
         (.seq
          (.ops [
            ⟨(some 2), .op (.mv), [.k (.p (.int .i64 5))], none⟩] (some [2]))
          .ret)
         (.seq
          (.opsD [
            ⟨(some 21), .op (.mv), [.r 3], none⟩,
            ⟨(some 22), .op (.bin .gtr .num), [.r 21, .k (.p (.int .i64 0))], none⟩,
            ⟨(some 23), .op (.mv), [.r 22], none⟩,
            ⟨(some 24), .op (.fa 0), [.r 4], (some (23, true))⟩,
            ⟨(some 25), .op (.ld none), [.r 24], (some (23, true))⟩,
            ⟨(some 26), .op (.mv), [.r 0], (some (23, true))⟩,
            ⟨(some 27), .op (.mv), [.r 3], (some (23, true))⟩,
            ⟨(some 28), .op (.bin .sub .num), [.r 27, .k (.p (.int .i64 1))], (some (23, true))⟩,
            ⟨(some 29), .op (.ia 2), [.r 26, .r 28], (some (23, true))⟩,
            ⟨(some 30), .op (.fa 0), [.r 29], (some (23, true))⟩,
            ⟨(some 31), .op (.ld none), [.r 30], (some (23, true))⟩,
            ⟨(some 32), .op (.bin .leq .num), [.r 25, .r 31], (some (23, true))⟩,
            ⟨(some 33), .op (.pick), [.r 23, .r 32, .k (.p (.bool false))], none⟩,
            ⟨(some 20), .op (.mv), [.r 33], none⟩] [] (some [0, 4, 8, 9, 10, 20]))
          (.cond (.r 20)
           (.seq
            (.ops [
              ⟨(some 2), .op (.mv), [.k (.p (.int .i64 7))], none⟩] (some [2]))
            .ret)
           (.seq
            (.ops [
              ⟨(some 35), .op (.fa 1), [.r 4], none⟩,
              ⟨(some 36), .op (.ld none), [.r 35], none⟩,
              ⟨(some 37), .callP 65, [.r 36, .k (.p (.int .i64 1)), .k (.p (.int .i64 100))], none⟩,
              ⟨(some 34), .op (.mv), [.r 37], none⟩] (some [0, 8, 9, 10, 34]))
            (.cond (.r 34)
             (.seq
              (.ops [
                ⟨(some 2), .op (.mv), [.k (.p (.int .i64 1))], none⟩] (some [2]))
              .ret)
             .skip)))))))))
    (.ops [
      ⟨(some 38), .op (.bin .add .num), [.r 10, .k (.p (.int .i64 1))], none⟩,
      ⟨(some 10), .op (.mv), [.r 38], none⟩] (some [0, 8, 9, 10])))))
def ir_95 : IFun := ⟨39, [.t 2],
 (.seq
  (.ops [
    ⟨(some 2), .op (.mv), [.k (.p (.int .i64 0))], none⟩] (some [0]))
  (.seq
   (.seq
    (.ops [
      ⟨(some 5), .op (.mv), [.r 0], none⟩,
      ⟨(some 6), .op (.lenl), [.r 5], none⟩,
      ⟨(some 7), .op (.bin .gtr .num), [.r 6, .k (.p (.int .i64 50))], none⟩] (some [0, 7]))
    (.cond (.r 7)
     (.seq
      (.ops [
        ⟨(some 2), .op (.mv), [.k (.p (.int .i64 2))], none⟩] (some [2]))
      .ret)
     .skip))
   (.seq
    (.seq
     (.ops [
       ⟨(some 8), .op (.mv), [.r 0], none⟩,
       ⟨(some 9), .op (.lenl), [.r 8], none⟩,
       ⟨(some 10), .op (.mv), [.k (.p (.int .i64 0))], none⟩] (some [0, 8, 9, 10]))
     (.block 0
      (.loop (some [0, 8, 9, 10]) ir_95_l0)))
    (.seq
     (.ops [
       ⟨(some 2), .op (.mv), [.k (.p (.int .i64 0))], none⟩] (some [2]))
     .ret))))⟩
theorem tr_95 : trFn Go.Proofs.Tryz.prog h_95 Go.Proofs.Tryz.f95 = some ir_95 := by kernel_rfl
theorem walk_95 {args : List RV} {S : Mem} {Q : RV → Mem → Prop} (hS : S.loc = []) (ha : args.length ≤ 39) (h : fnF false Go.Proofs.Tryz.prog ir_95 args S Q) : SC Go.Proofs.Tryz.prog 95 args S Q := SC.walk mix Go.Proofs.Tryz.func95 tr_95 hS ha h
/- (*gatewarden/upstream.health).probed -/
def h_154 : FHint := hn [] [] [] [(0, [0, 2, 4]), (1, [0, 4, 13]), (2, []), (3, [6]), (4, [0, 4]), (5, [0, 4, 7]), (6, [0, 4, 7, 29]), (7, [0, 7]), (8, [0, 37]), (9, [6]), (10, []), (11, [6])] []
def ir_154 : IFun := ⟨49, [.t 6],
 (.seq
  (.ops [
    ⟨(some 4), .op (.boxL 4), [.r 1], none⟩,
    ⟨(some 6), .op (.mv), [.k (.p (.bool false))], none⟩] (some [0, 2, 4]))
  (.seq
   (.seq
    (.ops [
      ⟨(some 8), .op (.mv), [.r 2], none⟩,
      ⟨(some 9), .op (.mv), [.r 0], none⟩,
      ⟨(some 10), .op (.nilchk), [.r 9], none⟩,
      ⟨(some 11), .op (.fa 0), [.r 10], none⟩,
      ⟨(some 12), .op (.ld none), [.r 11], none⟩,
      ⟨(some 13), .op (.bin .neq .bool), [.r 8, .r 12], none⟩] (some [0, 4, 13]))
    (.cond (.r 13)
     (.seq
      (.ops [
        ⟨(some 14), .op (.mv), [.r 0], none⟩,
        ⟨(some 15), .op (.nilchk), [.r 14], none⟩,
        ⟨(some 16), .op (.fa 1), [.r 15], none⟩,
        ⟨none, .op (.st 1), [.r 16, .k (.p (.int .i64 0))], none⟩] (some []))
      (.seq
       (.ops [
         ⟨(some 6), .op (.mv), [.k (.p (.bool false))], none⟩] (some [6]))
       .ret))
     .skip))
   (.seq
    (.ops [
      ⟨(some 17), .op (.mv), [.r 0], none⟩,
      ⟨(some 18), .op (.nilchk), [.r 17], none⟩,
      ⟨(some 19), .op (.fa 1), [.r 18], none⟩,
      ⟨(some 20), .op (.ld none), [.r 19], none⟩,
      ⟨(some 21), .op (.bin .add .num), [.r 20, .k (.p (.int .i64 1))], none⟩,
      ⟨(some 22), .op (.nilchk), [.r 17], none⟩,
      ⟨(some 23), .op (.fa 1), [.r 22], none⟩,
      ⟨none, .op (.st 1), [.r 23, .r 21], none⟩] (some [0, 4]))
    (.seq
     (.ops [
       ⟨(some 24), .op (.fa 1), [.r 4], none⟩,
       ⟨(some 25), .op (.ld none), [.r 24], none⟩,
       ⟨(some 7), .op (.mv), [.r 25], none⟩] (some [0, 4, 7]))
     (.seq
      (.seq
       (.ops [
         ⟨(some 26), .op (.mv), [.r 0], none⟩,
         ⟨(some 27), .op (.nilchk), [.r 26], none⟩,
         ⟨(some 28), .op (.fa 0), [.r 27], none⟩,
         ⟨(some 29), .op (.ld none), [.r 28], none⟩] (some [0, 4, 7, 29]))
       (.cond (.r 29)
        (.ops [
          ⟨(some 30), .op (.fa 0), [.r 4], none⟩,
          ⟨(some 31), .op (.ld none), [.r 30], none⟩,
          ⟨(some 7), .op (.mv), [.r 31], none⟩] (some [0, 7]))
        .skip))
      (.seq
       (.seq
        (.ops [
          ⟨(some 32), .op (.mv), [.r 0], none⟩,
          ⟨(some 33), .op (.nilchk), [.r 32], none⟩,
          ⟨(some 34), .op (.fa 1), [.r 33], none⟩,
          ⟨(some 35), .op (.ld none), [.r 34], none⟩,
          ⟨(some 36), .op (.mv), [.r 7], none⟩,
          ⟨(some 37), .op (.bin .lss .num), [.r 35, .r 36], none⟩] (some [0, 37]))
        (.cond (.r 37)
         (.seq
          (.ops [
            ⟨(some 6), .op (.mv), [.k (.p (.bool false))], none⟩] (some [6]))
          .ret)
         .skip))
       (.seq
        (.ops [
          ⟨(some 38), .op (.mv), [.r 0], none⟩,
          ⟨(some 39), .op (.mv), [.r 0], none⟩,
          ⟨(some 40), .op (.mv), [.r 0], none⟩,
          ⟨(some 41), .op (.nilchk), [.r 40], none⟩,
          ⟨(some 42), .op (.fa 0), [.r 41], none⟩,
          ⟨(some 43), .op (.ld none), [.r 42], none⟩,
          ⟨(some 44), .op (.un .not), [.r 43], none⟩,
          ⟨(some 45), .op (.nilchk), [.r 38], none⟩,
          ⟨(some 46), .op (.fa 0), [.r 45], none⟩,
          ⟨none, .op (.st 1), [.r 46, .r 44], none⟩,
          ⟨(some 47), .op (.nilchk), [.r 39], none⟩,
          ⟨(some 48), .op (.fa 1), [.r 47], none⟩,
          ⟨none, .op (.st 1), [.r 48, .k (.p (.int .i64 0))], none⟩] (some []))
        (.seq
         (.ops [
           ⟨(some 6), .op (.mv), [.k (.p (.bool true))], none⟩] (some [6]))
         .ret))))))))⟩
theorem tr_154 : trFn Go.Proofs.Tryz.prog h_154 Go.Proofs.Tryz.f154 = some ir_154 := by kernel_rfl
theorem walk_154 {args : List RV} {S : Mem} {Q : RV → Mem → Prop} (hS : S.loc = []) (ha : args.length ≤ 49) (h : fnF false Go.Proofs.Tryz.prog ir_154 args S Q) : SC Go.Proofs.Tryz.prog 154 args S Q := SC.walk mix Go.Proofs.Tryz.func154 tr_154 hS ha h
theorem walkO_154 {args : List RV} {S : Mem} {Q : RV → Mem → Prop} (hS : S.loc = []) (ha : args.length ≤ 49) (h : fnF true Go.Proofs.Tryz.prog ir_154 args S Q) : SC Go.Proofs.Tryz.prog 154 args S Q := SC.walk mix Go.Proofs.Tryz.func154 tr_154 hS ha h
/- slices.DeleteFunc[[]gatewarden/api.Probe,gatewarden/api.Probe] -/
def h_37 : FHint := hn [] [] [] [(0, [0, 1]), (1, [0, 1, 5]), (2, [0, 1, 5, 12]), (3, [4]), (4, [0, 1, 5, 6]), (5, [0, 1, 5, 6, 19]), (7, [0, 1, 5, 6, 7]), (8, [0, 1, 5, 6, 7, 29]), (9, [0, 1, 5, 6]), (10, [0, 1, 5, 6]), (6, [0, 1, 5, 6]), (11, [0, 5]), (12, [4])] [(5, [0, 1, 5, 6])]
def ir_37_l0 : IR :=
 (.seq
  (.seq
   (.ops [
     ⟨(some 16), .op (.mv), [.r 6], none⟩,
     ⟨(some 17), .op (.mv), [.r 0], none⟩,
     ⟨(some 18), .op (.lenl), [.r 17], none⟩,
     ⟨(some 19), .op (.bin .lss .num), [.r 16, .r 18], none⟩] (some [0, 1, 5, 6, 19]))
   (.cond (.r 19)
    .skip
    (.exit 0)))
  (.seq
   (.block 1
    (.seq
     (.ops [
       ⟨(some 22), .op (.mv), [.r 0], none⟩,
       ⟨(some 23), .op (.mv), [.r 6], none⟩,
       ⟨(some 24), .op (.ia 3), [.r 22, .r 23], none⟩,
       ⟨(some 25), .op (.ld (some 3)), [.r 24], none⟩,
       ⟨(some 7), .op (.allocL 7 [(.p (.int .i64 0)), (.p (.str [])), (.p (.bool false))]), [], none⟩,
       ⟨none, .op (.st 3), [.r 7, .r 25], none⟩] (some [0, 1, 5, 6, 7]))
     (.seq
      (.ops [
        ⟨(some 26), .op (.mv), [.r 1], none⟩,
        ⟨(some 27), .op (.ld (some 3)), [.r 7], none⟩,
        ⟨(some 28), .callv, [.r 26, .r 27], none⟩,
        ⟨(some 29), .op (.un .not), [.r 28], none⟩] (some [0, 1, 5, 6, 7, 29]))
      (.cond (.r 29)
       (.seq
        (.ops [
          ⟨(some 30), .op (.mv), [.r 0], none⟩,
          ⟨(some 31), .op (.mv), [.r 5], none⟩,
          ⟨(some 32), .op (.ld (some 3)), [.r 7], none⟩,
          ⟨(some 33), .op (.ia 3), [.r 30, .r 31], none⟩,
          ⟨none, .op (.st 3), [.r 33, .r 32], none⟩] (some [0, 1, 5, 6]))
        (.ops [
          ⟨(some 34), .op (.mv), [.r 5], none⟩,
          ⟨(some 35), .op (.bin .add .num), [.r 34, .k (.p (.int .i64 1))], none⟩,
          ⟨(some 5), .op (.mv), [.r 35], none⟩] (some [0, 1, 5, 6])))
       .skip))))
   (.ops [
     ⟨(some 20), .op (.mv), [.r 6], none⟩,
     ⟨(some 21), .op (.bin .add .num), [.r 20, .k (.p (.int .i64 1))], none⟩,
     ⟨(some 6), .op (.mv), [.r 21], none⟩] (some [0, 1, 5, 6]))))
def ir_37 : IFun := ⟨42, [.t 4],
 (.seq
  (.ops [
    ⟨(some 4), .op (.mv), [.k (.nsl true)], none⟩] (some [0, 1]))
  (.seq
   (.ops [
     ⟨(some 8), .op (.mv), [.r 0], none⟩,
     ⟨(some 9), .op (.mv), [.r 1], none⟩,
     ⟨(some 10), .call 98, [.r 8, .r 9], none⟩,
     ⟨(some 5), .op (.mv), [.r 10], none⟩] (some [0, 1, 5]))
   (.seq
    (.seq
     (.ops [
       ⟨(some 11), .op (.mv), [.r 5], none⟩,
       ⟨(some 12), .op (.bin .eql .num), [.r 11, .k (.p (.int .i64 (-1)))], none⟩] (some [0, 1, 5, 12]))
     (.cond (.r 12)
      (.seq
       (.ops [
         ⟨(some 13), .op (.mv), [.r 0], none⟩,
         ⟨(some 4), .op (.mv), [.r 13], none⟩] (some [4]))
       .ret)
      .skip))
    (.seq
     (.seq
      (.ops [
        ⟨(some 14), .op (.mv), [.r 5], none⟩,
        ⟨(some 15), .op (.bin .add .num), [.r 14, .k (.p (.int .i64 1))], none⟩,
        ⟨(some 6), .op (.mv), [.r 15], none⟩] (some [0, 1, 5, 6]))
      (.block 0
       (.loop (some [0, 1, 5, 6]) ir_37_l0)))
     (.seq
      (.ops [
        ⟨(some 36), .op (.mv), [.r 0], none⟩,
        ⟨(some 37), .op (.mv), [.r 5], none⟩,
        ⟨(some 38), .op (.sll 3 true false), [.r 36, .r 37], none⟩,
        ⟨none, .op (.y (.clr 3 [(.p (.int .i64 0)), (.p (.str [])), (.p (.bool false))])), [.r 38], none⟩] (some [0, 5]))
      (.seq
       (.ops [
         ⟨(some 39), .op (.mv), [.r 0], none⟩,
         ⟨(some 40), .op (.mv), [.r 5], none⟩,
         ⟨(some 41), .op (.sll 3 false true), [.r 39, .r 40], none⟩,
         ⟨(some 4), .op (.mv), [.r 41], none⟩] (some [4]))
       .ret))))))⟩
theorem tr_37 : trFn Go.Proofs.Tryz.prog h_37 Go.Proofs.Tryz.f37 = some ir_37 := by kernel_rfl
theorem walk_37 {args : List RV} {S : Mem} {Q : RV → Mem → Prop} (hS : S.loc = []) (ha : args.length ≤ 42) (h : fnF false Go.Proofs.Tryz.prog ir_37 args S Q) : SC Go.Proofs.Tryz.prog 37 args S Q := SC.walk mix Go.Proofs.Tryz.func37 tr_37 hS ha h
theorem walkO_37 {args : List RV} {S : Mem} {Q : RV → Mem → Prop} (hS : S.loc = []) (ha : args.length ≤ 42) (h : fnF true Go.Proofs.Tryz.prog ir_37 args S Q) : SC Go.Proofs.Tryz.prog 37 args S Q := SC.walk mix Go.Proofs.Tryz.func37 tr_37 hS ha h
/- slices.Clone[[]gatewarden/api.Probe,gatewarden/api.Probe] -/
def h_38 : FHint := hn [] [5] [7] [(0, [0]), (1, [0, 4]), (2, [2]), (3, [2])] []
def ir_38 : IFun := ⟨8, [.t 2],
 (.seq
  (.ops [
    ⟨(some 2), .op (.mv), [.k (.nsl true)], none⟩] (some [0]))
  (.seq
   (.seq
    (.ops [
      ⟨(some 3), .op (.mv), [.r 0], none⟩,
      ⟨(some 4), .op (.bin .eql .sl), [.r 3, .k (.nsl true)], none⟩] (some [0, 4]))
    (.cond (.r 4)
     (.seq
      (.ops [
        ⟨(some 2), .op (.mv), [.k (.nsl true)], none⟩] (some [2]))
      .ret)
     .skip))
   (.seq
    (.ops [
      ⟨(some 5), .op (.x (.bsl0)), [], none⟩,
      ⟨(some 6), .op (.mv), [.r 0], none⟩,
      ⟨(some 7), .op (.y (.appg 3 79 32)), [.r 5, .r 6], none⟩,
      ⟨(some 2), .op (.mv), [.r 7], none⟩] (some [2]))
    .ret)))⟩
theorem tr_38 : trFn Go.Proofs.Tryz.prog h_38 Go.Proofs.Tryz.f38 = some ir_38 := by kernel_rfl
theorem walk_38 {args : List RV} {S : Mem} {Q : RV → Mem → Prop} (hS : S.loc = []) (ha : args.length ≤ 8) (h : fnF false Go.Proofs.Tryz.prog ir_38 args S Q) : SC Go.Proofs.Tryz.prog 38 args S Q := SC.walk mix Go.Proofs.Tryz.func38 tr_38 hS ha h
/- gatewarden/gatekeep2.HealthIsByItself$1 -/
def h_39 : FHint := hn [] [] [] [(0, [1, 2]), (1, [3])] []
def ir_39 : IFun := ⟨9, [.t 3],
 (.seq
  (.ops [
    ⟨(some 2), .op (.boxL 2), [.r 0], none⟩,
    ⟨(some 3), .op (.mv), [.k (.p (.bool false))], none⟩] (some [1, 2]))
  (.seq
   (.ops [
     ⟨(some 4), .op (.fa 1), [.r 2], none⟩,
     ⟨(some 5), .op (.ld none), [.r 4], none⟩,
     ⟨(some 6), .op (.fa 0), [.r 1], none⟩,
     ⟨(some 7), .op (.ld none), [.r 6], none⟩,
     ⟨(some 8), .op (.bin .neq .num), [.r 5, .r 7], none⟩,
     ⟨(some 3), .op (.mv), [.r 8], none⟩] (some [3]))
   .ret))⟩
theorem tr_39 : trFn Go.Proofs.Tryz.prog h_39 Go.Proofs.Tryz.f39 = some ir_39 := by kernel_rfl
theorem walk_39 {args : List RV} {S : Mem} {Q : RV → Mem → Prop} (hS : S.loc = []) (ha : args.length ≤ 9) (h : fnF false Go.Proofs.Tryz.prog ir_39 args S Q) : SC Go.Proofs.Tryz.prog 39 args S Q := SC.walk mix Go.Proofs.Tryz.func39 tr_39 hS ha h
theorem walkO_39 {args : List RV} {S : Mem} {Q : RV → Mem → Prop} (hS : S.loc = []) (ha : args.length ≤ 9) (h : fnF true Go.Proofs.Tryz.prog ir_39 args S Q) : SC Go.Proofs.Tryz.prog 39 args S Q := SC.walk mix Go.Proofs.Tryz.func39 tr_39 hS ha h
/- slices.DeleteFunc[[]gatewarden/api.Turn,gatewarden/api.Turn] -/
def h_40 : FHint := hn [] [] [] [(0, [0, 1]), (1, [0, 1, 5]), (2, [0, 1, 5, 12]), (3, [4]), (4, [0, 1, 5, 6]), (5, [0, 1, 5, 6, 19]), (7, [0, 1, 5, 6, 7]), (8, [0, 1, 5, 6, 7, 29]), (9, [0, 1, 5, 6]), (10, [0, 1, 5, 6]), (6, [0, 1, 5, 6]), (11, [0, 5]), (12, [4])] [(5, [0, 1, 5, 6])]
def ir_40_l0 : IR :=
 (.seq
  (.seq
   (.ops [
     ⟨(some 16), .op (.mv), [.r 6], none⟩,
     ⟨(some 17), .op (.mv), [.r 0], none⟩,
     ⟨(some 18), .op (.lenl), [.r 17], none⟩,
     ⟨(some 19), .op (.bin .lss .num), [.r 16, .r 18], none⟩] (some [0, 1, 5, 6, 19]))
   (.cond (.r 19)
    .skip
    (.exit 0)))
  (.seq
   (.block 1
    (.seq
     (.ops [
       ⟨(some 22), .op (.mv), [.r 0], none⟩,
       ⟨(some 23), .op (.mv), [.r 6], none⟩,
       ⟨(some 24), .op (.ia 3), [.r 22, .r 23], none⟩,
       ⟨(some 25), .op (.ld (some 3)), [.r 24], none⟩,
       ⟨(some 7), .op (.allocL 7 [(.p (.int .i64 0)), (.p (.str [])), (.p (.bool false))]), [], none⟩,
       ⟨none, .op (.st 3), [.r 7, .r 25], none⟩] (some [0, 1, 5, 6, 7]))
     (.seq
      (.ops [
        ⟨(some 26), .op (.mv), [.r 1], none⟩,
        ⟨(some 27), .op (.ld (some 3)), [.r 7], none⟩,
        ⟨(some 28), .callv, [.r 26, .r 27], none⟩,
        ⟨(some 29), .op (.un .not), [.r 28], none⟩] (some [0, 1, 5, 6, 7, 29]))
      (.cond (.r 29)
       (.seq
        (.ops [
          ⟨(some 30), .op (.mv), [.r 0], none⟩,
          ⟨(some 31), .op (.mv), [.r 5], none⟩,
          ⟨(some 32), .op (.ld (some 3)), [.r 7], none⟩,
          ⟨(some 33), .op (.ia 3), [.r 30, .r 31], none⟩,
          ⟨none, .op (.st 3), [.r 33, .r 32], none⟩] (some [0, 1, 5, 6]))
        (.ops [
          ⟨(some 34), .op (.mv), [.r 5], none⟩,
          ⟨(some 35), .op (.bin .add .num), [.r 34, .k (.p (.int .i64 1))], none⟩,
          ⟨(some 5), .op (.mv), [.r 35], none⟩] (some [0, 1, 5, 6])))
       .skip))))
   (.ops [
     ⟨(some 20), .op (.mv), [.r 6], none⟩,
     ⟨(some 21), .op (.bin .add .num), [.r 20, .k (.p (.int .i64 1))], none⟩,
     ⟨(some 6), .op (.mv), [.r 21], none⟩] (some [0, 1, 5, 6]))))
def ir_40 : IFun := ⟨42, [.t 4],
 (.seq
  (.ops [
    ⟨(some 4), .op (.mv), [.k (.nsl true)], none⟩] (some [0, 1]))
  (.seq
   (.ops [
     ⟨(some 8), .op (.mv), [.r 0], none⟩,
     ⟨(some 9), .op (.mv), [.r 1], none⟩,
     ⟨(some 10), .call 99, [.r 8, .r 9], none⟩,
     ⟨(some 5), .op (.mv), [.r 10], none⟩] (some [0, 1, 5]))
   (.seq
    (.seq
     (.ops [
       ⟨(some 11), .op (.mv), [.r 5], none⟩,
       ⟨(some 12), .op (.bin .eql .num), [.r 11, .k (.p (.int .i64 (-1)))], none⟩] (some [0, 1, 5, 12]))
     (.cond (.r 12)
      (.seq
       (.ops [
         ⟨(some 13), .op (.mv), [.r 0], none⟩,
         ⟨(some 4), .op (.mv), [.r 13], none⟩] (some [4]))
       .ret)
      .skip))
    (.seq
     (.seq
      (.ops [
        ⟨(some 14), .op (.mv), [.r 5], none⟩,
        ⟨(some 15), .op (.bin .add .num), [.r 14, .k (.p (.int .i64 1))], none⟩,
        ⟨(some 6), .op (.mv), [.r 15], none⟩] (some [0, 1, 5, 6]))
      (.block 0
       (.loop (some [0, 1, 5, 6]) ir_40_l0)))
     (.seq
      (.ops [
        ⟨(some 36), .op (.mv), [.r 0], none⟩,
        ⟨(some 37), .op (.mv), [.r 5], none⟩,
        ⟨(some 38), .op (.sll 3 true false), [.r 36, .r 37], none⟩,
        ⟨none, .op (.y (.clr 3 [(.p (.int .i64 0)), (.p (.str [])), (.p (.bool false))])), [.r 38], none⟩] (some [0, 5]))
      (.seq
       (.ops [
         ⟨(some 39), .op (.mv), [.r 0], none⟩,
         ⟨(some 40), .op (.mv), [.r 5], none⟩,
         ⟨(some 41), .op (.sll 3 false true), [.r 39, .r 40], none⟩,
         ⟨(some 4), .op (.mv), [.r 41], none⟩] (some [4]))
       .ret))))))⟩
theorem tr_40 : trFn Go.Proofs.Tryz.prog h_40 Go.Proofs.Tryz.f40 = some ir_40 := by kernel_rfl
theorem walk_40 {args : List RV} {S : Mem} {Q : RV → Mem → Prop} (hS : S.loc = []) (ha : args.length ≤ 42) (h : fnF false Go.Proofs.Tryz.prog ir_40 args S Q) : SC Go.Proofs.Tryz.prog 40 args S Q := SC.walk mix Go.Proofs.Tryz.func40 tr_40 hS ha h
theorem walkO_40 {args : List RV} {S : Mem} {Q : RV → Mem → Prop} (hS : S.loc = []) (ha : args.length ≤ 42) (h : fnF true Go.Proofs.Tryz.prog ir_40 args S Q) : SC Go.Proofs.Tryz.prog 40 args S Q := SC.walk mix Go.Proofs.Tryz.func40 tr_40 hS ha h
/- slices.Clone[[]gatewarden/api.Turn,gatewarden/api.Turn] -/
def h_41 : FHint := hn [] [5] [7] [(0, [0]), (1, [0, 4]), (2, [2]), (3, [2])] []
def ir_41 : IFun := ⟨8, [.t 2],
 (.seq
  (.ops [
    ⟨(some 2), .op (.mv), [.k (.nsl true)], none⟩] (some [0]))
  (.seq
   (.seq
    (.ops [
      ⟨(some 3), .op (.mv), [.r 0], none⟩,
      ⟨(some 4), .op (.bin .eql .sl), [.r 3, .k (.nsl true)], none⟩] (some [0, 4]))
    (.cond (.r 4)
     (.seq
      (.ops [
        ⟨(some 2), .op (.mv), [.k (.nsl true)], none⟩] (some [2]))
      .ret)
     .skip))
   (.seq
    (.ops [
      ⟨(some 5), .op (.x (.bsl0)), [], none⟩,
      ⟨(some 6), .op (.mv), [.r 0], none⟩,
      ⟨(some 7), .op (.y (.appg 3 84 32)), [.r 5, .r 6], none⟩,
      ⟨(some 2), .op (.mv), [.r 7], none⟩] (some [2]))
    .ret)))⟩
theorem tr_41 : trFn Go.Proofs.Tryz.prog h_41 Go.Proofs.Tryz.f41 = some ir_41 := by kernel_rfl
theorem walk_41 {args : List RV} {S : Mem} {Q : RV → Mem → Prop} (hS : S.loc = []) (ha : args.length ≤ 8) (h : fnF false Go.Proofs.Tryz.prog ir_41 args S Q) : SC Go.Proofs.Tryz.prog 41 args S Q := SC.walk mix Go.Proofs.Tryz.func41 tr_41 hS ha h
/- gatewarden/gatekeep2.HealthIsByItself$2 -/
def h_42 : FHint := hn [] [] [] [(0, [1, 2]), (1, [3])] []
def ir_42 : IFun := ⟨9, [.t 3],
 (.seq
  (.ops [
    ⟨(some 2), .op (.boxL 2), [.r 0], none⟩,
    ⟨(some 3), .op (.mv), [.k (.p (.bool false))], none⟩] (some [1, 2]))
  (.seq
   (.ops [
     ⟨(some 4), .op (.fa 1), [.r 2], none⟩,
     ⟨(some 5), .op (.ld none), [.r 4], none⟩,
     ⟨(some 6), .op (.fa 0), [.r 1], none⟩,
     ⟨(some 7), .op (.ld none), [.r 6], none⟩,
     ⟨(some 8), .op (.bin .neq .num), [.r 5, .r 7], none⟩,
     ⟨(some 3), .op (.mv), [.r 8], none⟩] (some [3]))
   .ret))⟩
theorem tr_42 : trFn Go.Proofs.Tryz.prog h_42 Go.Proofs.Tryz.f42 = some ir_42 := by kernel_rfl
theorem walk_42 {args : List RV} {S : Mem} {Q : RV → Mem → Prop} (hS : S.loc = []) (ha : args.length ≤ 9) (h : fnF false Go.Proofs.Tryz.prog ir_42 args S Q) : SC Go.Proofs.Tryz.prog 42 args S Q := SC.walk mix Go.Proofs.Tryz.func42 tr_42 hS ha h
theorem walkO_42 {args : List RV} {S : Mem} {Q : RV → Mem → Prop} (hS : S.loc = []) (ha : args.length ≤ 9) (h : fnF true Go.Proofs.Tryz.prog ir_42 args S Q) : SC Go.Proofs.Tryz.prog 42 args S Q := SC.walk mix Go.Proofs.Tryz.func42 tr_42 hS ha h
/- slices.Equal[[]gatewarden/api.Turn,gatewarden/api.Turn] -/
def h_43 : FHint := hn [] [] [] [(0, [0, 1]), (1, [0, 1, 10]), (2, [4]), (3, [0, 1, 12, 13]), (4, [0, 1, 12, 13, 14]), (5, [0, 1, 5, 12, 13]), (6, [0, 1, 12, 13, 24]), (7, [4]), (8, [0, 1, 12, 13]), (9, [4])] [(4, [0, 1, 12, 13])]
def ir_43_l0 : IR :=
 (.seq
  (.ops [
    ⟨(some 14), .op (.bin .lss .num), [.r 13, .r 12], none⟩] (some [0, 1, 12, 13, 14]))
  (.seq
   (.cond (.r 14)
    .skip
    (.exit 0))
   (.seq
    (.block 1
     (.seq
      (.ops [
        ⟨(some 15), .op (.mv), [.r 13], none⟩,
        ⟨(some 5), .op (.mv), [.r 15], none⟩] (some [0, 1, 5, 12, 13]))
      (.seq
       (.opsD [
         ⟨(some 16), .op (.mv), [.r 0], none⟩,
         ⟨(some 17), .op (.mv), [.r 5], none⟩,
         ⟨(some 18), .op (.ia 3), [.r 16, .r 17], none⟩,
         ⟨(some 19), .op (.ld (some 3)), [.r 18], none⟩,
         ⟨(some 20), .op (.mv), [.r 1], none⟩,
         ⟨(some 21), .op (.mv), [.r 5], none⟩,
         ⟨(some 22), .op (.ia 3), [.r 20, .r 21], none⟩,
         ⟨(some 23), .op (.ld (some 3)), [.r 22], none⟩,
         ⟨(some 24), .op (.y (.eqs true [.i, .s, .b])), [.r 19, .r 23], none⟩] [] (some [0, 1, 12, 13, 24]))
       (.cond (.r 24)
        (.seq
         (.ops [
           ⟨(some 4), .op (.mv), [.k (.p (.bool false))], none⟩] (some [4]))
         .ret)
        .skip))))
    (.ops [
      ⟨(some 25), .op (.bin .add .num), [.r 13, .k (.p (.int .i64 1))], none⟩,
      ⟨(some 13), .op (.mv), [.r 25], none⟩] (some [0, 1, 12, 13])))))
def ir_43 : IFun := ⟨26, [.t 4],
 (.seq
  (.ops [
    ⟨(some 4), .op (.mv), [.k (.p (.bool false))], none⟩] (some [0, 1]))
  (.seq
   (.seq
    (.ops [
      ⟨(some 6), .op (.mv), [.r 0], none⟩,
      ⟨(some 7), .op (.lenl), [.r 6], none⟩,
      ⟨(some 8), .op (.mv), [.r 1], none⟩,
      ⟨(some 9), .op (.lenl), [.r 8], none⟩,
      ⟨(some 10), .op (.bin .neq .num), [.r 7, .r 9], none⟩] (some [0, 1, 10]))
    (.cond (.r 10)
     (.seq
      (.ops [
        ⟨(some 4), .op (.mv), [.k (.p (.bool false))], none⟩] (some [4]))
      .ret)
     .skip))
   (.seq
    (.seq
     (.ops [
       ⟨(some 11), .op (.mv), [.r 0], none⟩,
       ⟨(some 12), .op (.lenl), [.r 11], none⟩,
       ⟨(some 13), .op (.mv), [.k (.p (.int .i64 0))], none⟩] (some [0, 1, 12, 13]))
     (.block 0
      (.loop (some [0, 1, 12, 13]) ir_43_l0)))
    (.seq
     (.ops [
       ⟨(some 4), .op (.mv), [.k (.p (.bool true))], none⟩] (some [4]))
     .ret))))⟩
theorem tr_43 : trFn Go.Proofs.Tryz.prog h_43 Go.Proofs.Tryz.f43 = some ir_43 := by kernel_rfl
theorem walk_43 {args : List RV} {S : Mem} {Q : RV → Mem → Prop} (hS : S.loc = []) (ha : args.length ≤ 26) (h : fnF false Go.Proofs.Tryz.prog ir_43 args S Q) : SC Go.Proofs.Tryz.prog 43 args S Q := SC.walk mix Go.Proofs.Tryz.func43 tr_43 hS ha h
theorem walkO_43 {args : List RV} {S : Mem} {Q : RV → Mem → Prop} (hS : S.loc = []) (ha : args.length ≤ 26) (h : fnF true Go.Proofs.Tryz.prog ir_43 args S Q) : SC Go.Proofs.Tryz.prog 43 args S Q := SC.walk mix Go.Proofs.Tryz.func43 tr_43 hS ha h
/- slices.IndexFunc[[]gatewarden/api.Probe,gatewarden/api.Probe] -/
def h_98 : FHint := hn [] [] [] [(0, [0, 1]), (1, [0, 1, 7, 8]), (2, [0, 1, 7, 8, 9]), (3, [0, 1, 5, 7, 8]), (4, [0, 1, 5, 7, 8, 16]), (5, [4]), (6, [0, 1, 7, 8]), (7, [4])] [(2, [0, 1, 7, 8])]
def ir_98_l0 : IR :=
 (.seq
  (.ops [
    ⟨(some 9), .op (.bin .lss .num), [.r 8, .r 7], none⟩] (some [0, 1, 7, 8, 9]))
  (.seq
   (.cond (.r 9)
    .skip
    (.exit 0))
   (.seq
    (.block 1
     (.seq
      (.ops [
        ⟨(some 10), .op (.mv), [.r 8], none⟩,
        ⟨(some 5), .op (.mv), [.r 10], none⟩] (some [0, 1, 5, 7, 8]))
      (.seq
       (.ops [
         ⟨(some 11), .op (.mv), [.r 1], none⟩,
         ⟨(some 12), .op (.mv), [.r 0], none⟩,
         ⟨(some 13), .op (.mv), [.r 5], none⟩,
         ⟨(some 14), .op (.ia 3), [.r 12, .r 13], none⟩,
         ⟨(some 15), .op (.ld (some 3)), [.r 14], none⟩,
         ⟨(some 16), .callv, [.r 11, .r 15], none⟩] (some [0, 1, 5, 7, 8, 16]))
       (.cond (.r 16)
        (.seq
         (.ops [
           ⟨(some 17), .op (.mv), [.r 5], none⟩,
           ⟨(some 4), .op (.mv), [.r 17], none⟩] (some [4]))
         .ret)
        .skip))))
    (.ops [
      ⟨(some 18), .op (.bin .add .num), [.r 8, .k (.p (.int .i64 1))], none⟩,
      ⟨(some 8), .op (.mv), [.r 18], none⟩] (some [0, 1, 7, 8])))))
def ir_98 : IFun := ⟨19, [.t 4],
 (.seq
  (.ops [
    ⟨(some 4), .op (.mv), [.k (.p (.int .i64 0))], none⟩] (some [0, 1]))
  (.seq
   (.seq
    (.ops [
      ⟨(some 6), .op (.mv), [.r 0], none⟩,
      ⟨(some 7), .op (.lenl), [.r 6], none⟩,
      ⟨(some 8), .op (.mv), [.k (.p (.int .i64 0))], none⟩] (some [0, 1, 7, 8]))
    (.block 0
     (.loop (some [0, 1, 7, 8]) ir_98_l0)))
   (.seq
    (.ops [
      ⟨(some 4), .op (.mv), [.k (.p (.int .i64 (-1)))], none⟩] (some [4]))
    .ret)))⟩
theorem tr_98 : trFn Go.Proofs.Tryz.prog h_98 Go.Proofs.Tryz.f98 = some ir_98 := by kernel_rfl
theorem walk_98 {args : List RV} {S : Mem} {Q : RV → Mem → Prop} (hS : S.loc = []) (ha : args.length ≤ 19) (h : fnF false Go.Proofs.Tryz.prog ir_98 args S Q) : SC Go.Proofs.Tryz.prog 98 args S Q := SC.walk mix Go.Proofs.Tryz.func98 tr_98 hS ha h
theorem walkO_98 {args : List RV} {S : Mem} {Q : RV → Mem → Prop} (hS : S.loc = []) (ha : args.length ≤ 19) (h : fnF true Go.Proofs.Tryz.prog ir_98 args S Q) : SC Go.Proofs.Tryz.prog 98 args S Q := SC.walk mix Go.Proofs.Tryz.func98 tr_98 hS ha h
/- slices.IndexFunc[[]gatewarden/api.Turn,gatewarden/api.Turn] -/
def h_99 : FHint := hn [] [] [] [(0, [0, 1]), (1, [0, 1, 7, 8]), (2, [0, 1, 7, 8, 9]), (3, [0, 1, 5, 7, 8]), (4, [0, 1, 5, 7, 8, 16]), (5, [4]), (6, [0, 1, 7, 8]), (7, [4])] [(2, [0, 1, 7, 8])]
def ir_99_l0 : IR :=
 (.seq
  (.ops [
    ⟨(some 9), .op (.bin .lss .num), [.r 8, .r 7], none⟩] (some [0, 1, 7, 8, 9]))
  (.seq
   (.cond (.r 9)
    .skip
    (.exit 0))
   (.seq
    (.block 1
     (.seq
      (.ops [
        ⟨(some 10), .op (.mv), [.r 8], none⟩,
        ⟨(some 5), .op (.mv), [.r 10], none⟩] (some [0, 1, 5, 7, 8]))
      (.seq
       (.ops [
         ⟨(some 11), .op (.mv), [.r 1], none⟩,
         ⟨(some 12), .op (.mv), [.r 0], none⟩,
         ⟨(some 13), .op (.mv), [.r 5], none⟩,
         ⟨(some 14), .op (.ia 3), [.r 12, .r 13], none⟩,
         ⟨(some 15), .op (.ld (some 3)), [.r 14], none⟩,
         ⟨(some 16), .callv, [.r 11, .r 15], none⟩] (some [0, 1, 5, 7, 8, 16]))
       (.cond (.r 16)
        (.seq
         (.ops [
           ⟨(some 17), .op (.mv), [.r 5], none⟩,
           ⟨(some 4), .op (.mv), [.r 17], none⟩] (some [4]))
         .ret)
        .skip))))
    (.ops [
      ⟨(some 18), .op (.bin .add .num), [.r 8, .k (.p (.int .i64 1))], none⟩,
      ⟨(some 8), .op (.mv), [.r 18], none⟩] (some [0, 1, 7, 8])))))
def ir_99 : IFun := ⟨19, [.t 4],
 (.seq
  (.ops [
    ⟨(some 4), .op (.mv), [.k (.p (.int .i64 0))], none⟩] (some [0, 1]))
  (.seq
   (.seq
    (.ops [
      ⟨(some 6), .op (.mv), [.r 0], none⟩,
      ⟨(some 7), .op (.lenl), [.r 6], none⟩,
      ⟨(some 8), .op (.mv), [.k (.p (.int .i64 0))], none⟩] (some [0, 1, 7, 8]))
    (.block 0
     (.loop (some [0, 1, 7, 8]) ir_99_l0)))
   (.seq
    (.ops [
      ⟨(some 4), .op (.mv), [.k (.p (.int .i64 (-1)))], none⟩] (some [4]))
    .ret)))⟩
theorem tr_99 : trFn Go.Proofs.Tryz.prog h_99 Go.Proofs.Tryz.f99 = some ir_99 := by kernel_rfl
theorem walk_99 {args : List RV} {S : Mem} {Q : RV → Mem → Prop} (hS : S.loc = []) (ha : args.length ≤ 19) (h : fnF false Go.Proofs.Tryz.prog ir_99 args S Q) : SC Go.Proofs.Tryz.prog 99 args S Q := SC.walk mix Go.Proofs.Tryz.func99 tr_99 hS ha h
theorem walkO_99 {args : List RV} {S : Mem} {Q : RV → Mem → Prop} (hS : S.loc = []) (ha : args.length ≤ 19) (h : fnF true Go.Proofs.Tryz.prog ir_99 args S Q) : SC Go.Proofs.Tryz.prog 99 args S Q := SC.walk mix Go.Proofs.Tryz.func99 tr_99 hS ha h
end Go.Ag
/- The functions that are run: one more table. -/
namespace Go.Ag
open Go
noncomputable def tabL : BT := (.node 157 (trFn Go.Proofs.Tryz.prog (hn [] [] [] [(0, [1, 2]), (1, [4])] []) Go.Proofs.Tryz.f157)
 (.node 156 (trFn Go.Proofs.Tryz.prog (hn [] [] [] [(0, [0, 1, 2]), (1, [0, 1, 2, 8]), (2, [0, 1, 2, 8, 9, 10]), (3, [0, 1, 2, 8, 9, 10, 17]), (4, [0, 1, 2, 8, 9, 10, 11]), (5, [0, 1, 2, 8, 9, 10, 11, 31]), (7, [0, 1, 2, 8, 9, 10]), (6, [0, 1, 2, 8, 9, 10]), (8, [6, 7])] [(3, [0, 1, 2, 8, 9, 10])]) Go.Proofs.Tryz.f156)
 (.node 97 (trFn Go.Proofs.Tryz.prog (hn [] [] [] [(0, [0, 1]), (1, [4, 5])] []) Go.Proofs.Tryz.f97)
 .leaf .leaf) .leaf) (.node 205 (trFn Go.Proofs.Tryz.prog (hn [] [] [] [(0, [0, 1]), (1, [4])] []) Go.Proofs.Tryz.f205)
 (.node 158 (trFn Go.Proofs.Tryz.prog (hn [] [] [] [(0, [0, 1]), (1, [4])] []) Go.Proofs.Tryz.f158)
 .leaf .leaf) .leaf))
theorem tabL_ok : tabL.Ok Go.Proofs.Tryz.prog := by unfold tabL; exact (BT.nd Go.Proofs.Tryz.func157 (BT.nd Go.Proofs.Tryz.func156 (BT.nd Go.Proofs.Tryz.func97 BT.lf BT.lf) BT.lf) (BT.nd Go.Proofs.Tryz.func205 (BT.nd Go.Proofs.Tryz.func158 BT.lf BT.lf) BT.lf))
end Go.Ag
/- HealthIsByItself: what the stream makes; what is checked. -/
namespace Go.Ag
open Go
set_option linter.unusedVariables false
set_option linter.unusedSimpArgs false
set_option maxRecDepth 100000

abbrev cIn (x : In) : List PV := [.str x.key, .int .i64 x.w]
abbrev cPb (b : Pb) : List PV := [.int .i64 b.t, .str b.inst, .bool b.good]
abbrev cTn (n : Tn) : List PV := [.int .i64 n.t, .str n.inst, .bool n.up]
theorem flPb : Fl cPb 3 := ⟨fun _ => rfl, fun x y hy => by simp at hy; rcases hy with rfl | rfl | rfl <;> rfl, by omega⟩
theorem flTn : Fl cTn 3 := ⟨fun _ => rfl, fun x y hy => by simp at hy; rcases hy with rfl | rfl | rfl <;> rfl, by omega⟩
abbrev ins (x : List In) : List PV := x.map (gz cIn)
abbrev pbs (p : List Pb) : List PV := p.map (gz cPb)
abbrev tns (l : List Tn) : List PV := l.map (gz cTn)
def ids : List (List UInt8) := [[105, 97], [105, 98], [105, 99], [105, 100]]
def kNone : List UInt8 := [110, 111, 110, 101]
def keys6 : List (List UInt8) := [] :: kNone :: ids
structure InsOk (x : List In) : Prop where
  keys : (x.map In.key).Sublist ids
  ne : x ≠ []
  w : ∀ i ∈ x, 1 ≤ i.w ∧ i.w ≤ 100
structure PbOk (b : Pb) : Prop where
  t : -1099511627776 ≤ b.t ∧ b.t ≤ 1099511627776
  inst : b.inst ∈ keys6
theorem InsOk.len {x : List In} (h : InsOk x) : x.length ≤ 4 := by
  have := h.keys.length_le
  simpa [ids] using this
theorem ins_sc (l : List Int) (a : Int) (rest : List Blk) (T : Toks) (hl : l.length ≤ 140737488355328) (h0 : 0 ≤ a) (h1 : a < 900000000) :
    SC PG 33 [.ptr 0 0] (stm l a rest T) fun r S' => ∃ x a' T', InsOk x ∧ (a ≤ a' ∧ a' ≤ a + 8) ∧ Ext T T' ∧ Row T 2 76 (ins x) T' r ∧ S' = stm l a' rest T' := by
  refine walk_33 rfl (by simp) ?_
  constructor
  refine LoopF.of (fun s : Nat × List In × RV × Toks × Int => ([(0, .ptr 0 0), (3, s.2.2.1), (6, .p (.sl (strs ids))), (7, vi 4), (8, vi s.1)], stm l s.2.2.2.2 rest s.2.2.2.1)) (fun s => 4 - s.1) (fun s => s.1 ≤ 4 ∧ (s.2.1.map In.key).Sublist (ids.take s.1) ∧ (∀ i ∈ s.2.1, 1 ≤ i.w ∧ i.w ≤ 100) ∧ (s.1 = 4 → s.2.1 ≠ []) ∧ (a ≤ s.2.2.2.2 ∧ s.2.2.2.2 ≤ a + 2 * s.1) ∧ Ext T s.2.2.2.1 ∧ Row T 2 76 (ins s.2.1) s.2.2.2.1 s.2.2.1) (0, [], .nsl true, T, a) ⟨by simp, by simp, by simp, by simp, by simp, Ext.refl T, Row.nil⟩ rfl rfl ?_
  rintro ⟨i, x, q, T1, a1⟩ ⟨hi, hk, hw, hne, ha, hx, hr⟩
  simp only at hi hk hw hne ha hx hr
  have hxl : x.length ≤ 4 := by
    have := hk.length_le
    simp [ids] at this
    omega
  have hr2 := hr
  have hlen : ((ins x).length : Int) = x.length := by simp
  rcases hr with ⟨rfl, he⟩ | ⟨t, rfl, ht⟩
  · obtain rfl : x = [] := List.map_eq_nil_iff.1 he
    constructor
    refine ⟨fun h2 => ?_, fun h2 => ?_⟩
    · have h2 : (i : Int) < 4 := h2
      constructor
      refine Elt.map (f := PV.str) (l := ids) (by simp only; omega) (by simp [ids]; omega) fun key hkey => ⟨rfl, ?_⟩
      have hkey : ids[i]? = some key := hkey
      have htake : ids.take (i + 1) = ids.take i ++ [key] := by rw [List.take_add_one, hkey]; rfl
      have hlast : i = 3 → key = [105, 100] := by
        rintro rfl
        simp [ids] at hkey
        exact hkey.symm
      constructor
      refine Cmp.yes rfl ?_
      constructor
      refine ⟨fun h3 => ?_, fun h3 => ?_⟩
      · constructor
        refine CallM.of rfl (pick_sc l (a1) rest T1 [1, 1, 2, 3, 5] hl (by omega) (by omega) (by decide) (by decide)) ?_
        rintro r S' ⟨w, hw2, rfl, rfl⟩
        have hw3 : 1 ≤ w ∧ w ≤ 100 := by simp at hw2; omega
        obtain ⟨t', T', k1, k2, k3⟩ := hr2.app (y := gz cIn ⟨key, w⟩) (b := 24) hx rfl (by simp [lim]; try omega)
        constructor
        refine Opr.of (k1 _ rfl) ?_
        constructor
        refine ⟨by unfold inR; omega, ?_⟩
        refine ⟨(i + 1, [] ++ [⟨key, w⟩], _, T', a1 + 1), ⟨by simp only; omega, ?_, ?_, by simp, ⟨by simp only; omega, by simp only; omega⟩, k3, by simpa using k2⟩, by simp only; omega, rfl, rfl⟩
        · simp only [htake, List.map_append, List.map_cons, List.map_nil]
          exact hk.append (List.Sublist.refl _)
        · intro j hj
          rcases List.mem_append.1 hj with hj | hj
          · exact hw j hj
          · rw [List.mem_singleton.1 hj]; exact hw3
      · constructor
        refine CallM.of rfl (flip_sc l a1 4 rest T1 hl (by omega) (by omega) (by omega) (by omega)) ?_
        rintro r S' ⟨hr5, rfl⟩
        rcases hr5 with rfl | rfl
        · constructor
          refine ⟨by unfold inR; omega, ?_⟩
          refine ⟨(i + 1, [], _, T1, a1 + 1), ⟨by simp only; omega, ?_, hw, fun h4 => absurd (hlast (by simp only at h4; omega)) h3, ⟨by simp only; omega, by simp only; omega⟩, hx, hr2⟩, by simp only; omega, rfl, rfl⟩
          simp only [htake]
          exact hk.trans (List.sublist_append_left _ _)
        · constructor
          refine CallM.of rfl (pick_sc l (a1 + 1) rest T1 [1, 1, 2, 3, 5] hl (by omega) (by omega) (by decide) (by decide)) ?_
          rintro r S' ⟨w, hw2, rfl, rfl⟩
          have hw3 : 1 ≤ w ∧ w ≤ 100 := by simp at hw2; omega
          obtain ⟨t', T', k1, k2, k3⟩ := hr2.app (y := gz cIn ⟨key, w⟩) (b := 24) hx rfl (by simp [lim]; try omega)
          constructor
          refine Opr.of (k1 _ rfl) ?_
          constructor
          refine ⟨by unfold inR; omega, ?_⟩
          refine ⟨(i + 1, [] ++ [⟨key, w⟩], _, T', a1 + 1 + 1), ⟨by simp only; omega, ?_, ?_, by simp, ⟨by simp only; omega, by simp only; omega⟩, k3, by simpa using k2⟩, by simp only; omega, rfl, rfl⟩
          · simp only [htake, List.map_append, List.map_cons, List.map_nil]
            exact hk.append (List.Sublist.refl _)
          · intro j hj
            rcases List.mem_append.1 hj with hj | hj
            · exact hw j hj
            · rw [List.mem_singleton.1 hj]; exact hw3
    · have h2 : ¬ (i : Int) < 4 := h2
      obtain rfl : i = 4 := by omega
      constructor
      exact ⟨_, a1, T1, ⟨hk, hne rfl, hw⟩, ⟨by omega, by omega⟩, hx, hr2, rfl⟩
  · constructor
    refine ⟨fun h2 => ?_, fun h2 => ?_⟩
    · have h2 : (i : Int) < 4 := h2
      constructor
      refine Elt.map (f := PV.str) (l := ids) (by simp only; omega) (by simp [ids]; omega) fun key hkey => ⟨rfl, ?_⟩
      have hkey : ids[i]? = some key := hkey
      have htake : ids.take (i + 1) = ids.take i ++ [key] := by rw [List.take_add_one, hkey]; rfl
      have hlast : i = 3 → key = [105, 100] := by
        rintro rfl
        simp [ids] at hkey
        exact hkey.symm
      constructor
      refine Cmp.no (by intro h4; rw [hlen] at h4; have : x = [] := List.length_eq_zero_iff.1 (by omega); rw [this] at ht; exact absurd rfl ht.2.2) ?_
      constructor
      refine CallM.of rfl (flip_sc l a1 4 rest T1 hl (by omega) (by omega) (by omega) (by omega)) ?_
      rintro r S' ⟨hr5, rfl⟩
      rcases hr5 with rfl | rfl
      · constructor
        refine ⟨by unfold inR; omega, ?_⟩
        refine ⟨(i + 1, x, _, T1, a1 + 1), ⟨by simp only; omega, ?_, hw, fun _ h4 => by have h4 : x = [] := h4; rw [h4] at ht; exact absurd rfl ht.2.2, ⟨by simp only; omega, by simp only; omega⟩, hx, hr2⟩, by simp only; omega, rfl, rfl⟩
        simp only [htake]
        exact hk.trans (List.sublist_append_left _ _)
      · constructor
        refine CallM.of rfl (pick_sc l (a1 + 1) rest T1 [1, 1, 2, 3, 5] hl (by omega) (by omega) (by decide) (by decide)) ?_
        rintro r S' ⟨w, hw2, rfl, rfl⟩
        have hw3 : 1 ≤ w ∧ w ≤ 100 := by simp at hw2; omega
        obtain ⟨t', T', k1, k2, k3⟩ := hr2.app (y := gz cIn ⟨key, w⟩) (b := 24) hx rfl (by simp [lim]; try omega)
        constructor
        refine Opr.of (k1 _ rfl) ?_
        constructor
        refine ⟨by unfold inR; omega, ?_⟩
        refine ⟨(i + 1, x ++ [⟨key, w⟩], _, T', a1 + 1 + 1), ⟨by simp only; omega, ?_, ?_, by simp, ⟨by simp only; omega, by simp only; omega⟩, k3, by simpa using k2⟩, by simp only; omega, rfl, rfl⟩
        · simp only [htake, List.map_append, List.map_cons, List.map_nil]
          exact hk.append (List.Sublist.refl _)
        · intro j hj
          rcases List.mem_append.1 hj with hj | hj
          · exact hw j hj
          · rw [List.mem_singleton.1 hj]; exact hw3
    · have h2 : ¬ (i : Int) < 4 := h2
      obtain rfl : i = 4 := by omega
      constructor
      exact ⟨_, a1, T1, ⟨hk, hne rfl, hw⟩, ⟨by omega, by omega⟩, hx, hr2, rfl⟩
theorem key_sc (l : List Int) (a : Int) (rest : List Blk) (T : Toks) (hl : l.length ≤ 140737488355328) (h0 : 0 ≤ a) (h1 : a < 900000000) :
    SC PG 91 [.ptr 0 0] (stm l a rest T) fun r S' => ∃ v ∈ keys6, r = .p (.str v) ∧ S' = stm l (a + 2) rest T := by
  refine walk_91 rfl (by simp) ?_
  constructor
  refine CallM.of rfl (flip_sc l a 40 rest T hl h0 (by omega) (by omega) (by omega)) ?_
  rintro r S' ⟨hr, rfl⟩
  rcases hr with rfl | rfl
  · constructor
    refine CallM.of rfl (some_sc l (a + 1) rest T [[], kNone] hl (by omega) (by omega) (by decide) (by decide)) ?_
    rintro r S' ⟨v, hv, rfl, rfl⟩
    constructor
    exact ⟨v, by simp at hv; rcases hv with rfl | rfl <;> simp [keys6], rfl, stm_eq (by omega)⟩
  · constructor
    refine CallM.of rfl (some_sc l (a + 1) rest T ids hl (by omega) (by omega) (by decide) (by decide)) ?_
    rintro r S' ⟨v, hv, rfl, rfl⟩
    constructor
    exact ⟨v, List.mem_cons_of_mem _ (List.mem_cons_of_mem _ hv), rfl, stm_eq (by omega)⟩
theorem odd_sc (l : List Int) (a : Int) (rest : List Blk) (T : Toks) (hl : l.length ≤ 140737488355328) (h0 : 0 ≤ a) (h1 : a < 900000000) :
    SC PG 92 [.ptr 0 0, vi 0, vi 50] (stm l a rest T) fun r S' => ∃ v, (-1099511627776 ≤ v ∧ v ≤ 1099511627776) ∧ r = vi v ∧ S' = stm l (a + 2) rest T := by
  refine walk_92 rfl (by simp) ?_
  constructor
  refine CallM.of rfl (flip_sc l a 12 rest T hl h0 (by omega) (by omega) (by omega)) ?_
  rintro r S' ⟨hr, rfl⟩
  rcases hr with rfl | rfl
  · constructor
    refine ⟨by unfold inR; omega, ?_⟩
    constructor
    refine ⟨by unfold inR; omega, ?_⟩
    constructor
    refine CallM.of rfl (pick_sc l (a + 1) rest T [0 - 1, 50 + 1, 0, 50, -1099511627776, 1099511627776] hl (by omega) (by omega) (by decide) (by decide)) ?_
    rintro r S' ⟨v, hv, rfl, rfl⟩
    constructor
    exact ⟨v, by simp at hv; omega, rfl, stm_eq (by omega)⟩
  · constructor
    refine CallM.of rfl (range_sc l (a + 1) 0 50 rest T hl (by omega) (by omega) (by omega) (by omega) (by omega)) ?_
    rintro r S' ⟨v, hv, rfl, rfl⟩
    constructor
    exact ⟨v, by omega, rfl, stm_eq (by omega)⟩

set_option maxHeartbeats 4000000 in
theorem prb_sc (l : List Int) (a : Int) (rest : List Blk) (T : Toks) (x : List In) (t0 : Nat) (hxo : InsOk x) (hl : l.length ≤ 140737488355328) (h0 : 0 ≤ a) (h1 : a < 800000000) :
    SC PG 34 [.ptr 0 0, .own (ins x) t0] (stm l a rest T) fun r S' => ∃ p a' T', ((∀ b ∈ p, PbOk b) ∧ p.length ≤ 16) ∧ (a ≤ a' ∧ a' ≤ a + 200) ∧ Ext T T' ∧ Row T 3 79 (pbs p) T' r ∧ S' = stm l a' rest T' := by
  have hlen : ((ins x).length : Int) = x.length := by simp
  have hx4 := hxo.len
  have hpos : 0 < ((ins x).length : Int) := by
    have : x.length ≠ 0 := fun h => hxo.ne (List.length_eq_zero_iff.1 h)
    omega
  refine walk_34 rfl (by simp) ?_
  constructor
  refine CallM.of rfl (range_sc l a 0 16 rest T hl h0 (by omega) (by omega) (by omega) (by omega)) ?_
  rintro r S' ⟨n, hn, rfl, rfl⟩
  constructor
  refine LoopF.of (fun s : List Pb × RV × Toks × Int × Int => ([(0, .ptr 0 0), (1, .own (ins x) t0), (5, s.2.1), (6, vi s.2.2.2.1), (9, vi n), (10, vi s.1.length)], stm l s.2.2.2.2 rest s.2.2.1)) (fun s => 16 - s.1.length) (fun s => (∀ b ∈ s.1, PbOk b) ∧ (s.1.length : Int) ≤ n ∧ (0 ≤ s.2.2.2.1 ∧ s.2.2.2.1 ≤ 10 * s.1.length) ∧ (a + 1 ≤ s.2.2.2.2 ∧ s.2.2.2.2 ≤ a + 1 + 10 * s.1.length) ∧ Ext T s.2.2.1 ∧ Row T 3 79 (pbs s.1) s.2.2.1 s.2.1) ([], .nsl true, T, 0, a + 1) ⟨by simp, by simp; omega, by simp, by simp, Ext.refl T, Row.nil⟩ rfl rfl ?_
  rintro ⟨p, q, T1, tt, a1⟩ ⟨hok, hpn, htt, ha, hx, hr⟩
  simp only at hok hpn htt ha hx hr
  have hr2 := hr
  rcases hr with ⟨rfl, he⟩ | ⟨t, rfl, ht⟩
  all_goals
    constructor
    refine ⟨fun h2 => ?_, fun h2 => ?_⟩
    · have h2 : (p.length : Int) < n := h2
      constructor
      refine CallM.of rfl (pick_sc l a1 rest T1 [0, 1, 5, 10] hl (by omega) (by omega) (by decide) (by decide)) ?_
      rintro r S' ⟨d, hd, rfl, rfl⟩
      have hd2 : 0 ≤ d ∧ d ≤ 10 := by simp at hd; omega
      constructor
      refine ⟨by unfold inR; simp only; omega, ?_⟩
      constructor
      refine CallM.of rfl (key_sc l (a1 + 1) rest T1 hl (by omega) (by omega)) ?_
      rintro r S' ⟨k, hkk, rfl, rfl⟩
      constructor
      refine CallM.of rfl (flip_sc l (a1 + 1 + 2) 2 rest T1 hl (by omega) (by omega) (by omega) (by omega)) ?_
      rintro r S' ⟨hr6, rfl⟩
      rcases hr6 with rfl | rfl
      · constructor
        refine Cmp.yes hpos ?_
        constructor
        refine CallM.of rfl (flip_sc l (a1 + 1 + 2 + 1) 60 rest T1 hl (by omega) (by omega) (by omega) (by omega)) ?_
        rintro r S' ⟨hr7, rfl⟩
        rcases hr7 with rfl | rfl
        · constructor
          refine CallM.of rfl (flip_sc l (a1 + 1 + 2 + 1 + 1) 80 rest T1 hl (by omega) (by omega) (by omega) (by omega)) ?_
          rintro r S' ⟨hr8, rfl⟩
          rcases hr8 with rfl | rfl
          · constructor
            refine CallM.of rfl (odd_sc l (a1 + 1 + 2 + 1 + 1 + 1) rest T1 hl (by omega) (by omega)) ?_
            rintro r S' ⟨v, hv, rfl, rfl⟩
            obtain ⟨t', T', k1, k2, k3⟩ := hr2.app (y := gz cPb ⟨v, k, true⟩) (b := 32) hx rfl (by simp [lim]; omega)
            constructor
            refine Opr.of (k1 _ rfl) ?_
            constructor
            refine ⟨by unfold inR; omega, ?_⟩
            refine ⟨(p ++ [⟨v, k, true⟩], _, T', tt + d, a1 + 1 + 2 + 1 + 1 + 1 + 2), ⟨?_, by simp only [List.length_append, List.length_cons, List.length_nil]; omega, ⟨by simp only; omega, by simp only [List.length_append, List.length_cons, List.length_nil]; omega⟩, ⟨by simp only; omega, by simp only [List.length_append, List.length_cons, List.length_nil]; omega⟩, k3, by simpa using k2⟩, by simp only [List.length_append, List.length_cons, List.length_nil]; omega, ?_, rfl⟩
            · intro b hb
              rcases List.mem_append.1 hb with hb | hb
              · exact hok b hb
              · rw [List.mem_singleton.1 hb]; exact ⟨⟨by simp only; omega, by simp only; omega⟩, hkk⟩
            · simp; rfl
          · obtain ⟨t', T', k1, k2, k3⟩ := hr2.app (y := gz cPb ⟨tt + d, k, true⟩) (b := 32) hx rfl (by simp [lim]; omega)
            constructor
            refine Opr.of (k1 _ rfl) ?_
            constructor
            refine ⟨by unfold inR; omega, ?_⟩
            refine ⟨(p ++ [⟨tt + d, k, true⟩], _, T', tt + d, a1 + 1 + 2 + 1 + 1 + 1), ⟨?_, by simp only [List.length_append, List.length_cons, List.length_nil]; omega, ⟨by simp only; omega, by simp only [List.length_append, List.length_cons, List.length_nil]; omega⟩, ⟨by simp only; omega, by simp only [List.length_append, List.length_cons, List.length_nil]; omega⟩, k3, by simpa using k2⟩, by simp only [List.length_append, List.length_cons, List.length_nil]; omega, ?_, rfl⟩
            · intro b hb
              rcases List.mem_append.1 hb with hb | hb
              · exact hok b hb
              · rw [List.mem_singleton.1 hb]; exact ⟨⟨by simp only; omega, by simp only; omega⟩, hkk⟩
            · simp; rfl
        · constructor
          refine CallM.of rfl (next_sc l (a1 + 1 + 2 + 1 + 1) _ rest T1 hl (by omega) (by omega) (by omega) (by omega)) ?_
          rintro r S' ⟨j, hj, rfl, rfl⟩
          constructor
          refine Elt.map (by omega) (by omega) fun y hy => ⟨rfl, ?_⟩
          have hyk : y.key ∈ keys6 := List.mem_cons_of_mem _ (List.mem_cons_of_mem _ (hxo.keys.subset (List.mem_map_of_mem (List.mem_of_getElem? hy))))
          constructor
          refine CallM.of rfl (flip_sc l (a1 + 1 + 2 + 1 + 1 + 1) 80 rest T1 hl (by omega) (by omega) (by omega) (by omega)) ?_
          rintro r S' ⟨hr8, rfl⟩
          rcases hr8 with rfl | rfl
          · constructor
            refine CallM.of rfl (odd_sc l (a1 + 1 + 2 + 1 + 1 + 1 + 1) rest T1 hl (by omega) (by omega)) ?_
            rintro r S' ⟨v, hv, rfl, rfl⟩
            obtain ⟨t', T', k1, k2, k3⟩ := hr2.app (y := gz cPb ⟨v, y.key, true⟩) (b := 32) hx rfl (by simp [lim]; omega)
            constructor
            refine Opr.of (k1 _ rfl) ?_
            constructor
            refine ⟨by unfold inR; omega, ?_⟩
            refine ⟨(p ++ [⟨v, y.key, true⟩], _, T', tt + d, a1 + 1 + 2 + 1 + 1 + 1 + 1 + 2), ⟨?_, by simp only [List.length_append, List.length_cons, List.length_nil]; omega, ⟨by simp only; omega, by simp only [List.length_append, List.length_cons, List.length_nil]; omega⟩, ⟨by simp only; omega, by simp only [List.length_append, List.length_cons, List.length_nil]; omega⟩, k3, by simpa using k2⟩, by simp only [List.length_append, List.length_cons, List.length_nil]; omega, ?_, rfl⟩
            · intro b hb
              rcases List.mem_append.1 hb with hb | hb
              · exact hok b hb
              · rw [List.mem_singleton.1 hb]; exact ⟨⟨by simp only; omega, by simp only; omega⟩, hyk⟩
            · simp; rfl
          · obtain ⟨t', T', k1, k2, k3⟩ := hr2.app (y := gz cPb ⟨tt + d, y.key, true⟩) (b := 32) hx rfl (by simp [lim]; omega)
            constructor
            refine Opr.of (k1 _ rfl) ?_
            constructor
            refine ⟨by unfold inR; omega, ?_⟩
            refine ⟨(p ++ [⟨tt + d, y.key, true⟩], _, T', tt + d, a1 + 1 + 2 + 1 + 1 + 1 + 1), ⟨?_, by simp only [List.length_append, List.length_cons, List.length_nil]; omega, ⟨by simp only; omega, by simp only [List.length_append, List.length_cons, List.length_nil]; omega⟩, ⟨by simp only; omega, by simp only [List.length_append, List.length_cons, List.length_nil]; omega⟩, k3, by simpa using k2⟩, by simp only [List.length_append, List.length_cons, List.length_nil]; omega, ?_, rfl⟩
            · intro b hb
              rcases List.mem_append.1 hb with hb | hb
              · exact hok b hb
              · rw [List.mem_singleton.1 hb]; exact ⟨⟨by simp only; omega, by simp only; omega⟩, hyk⟩
            · simp; rfl
      · constructor
        refine Cmp.yes hpos ?_
        constructor
        refine CallM.of rfl (flip_sc l (a1 + 1 + 2 + 1) 60 rest T1 hl (by omega) (by omega) (by omega) (by omega)) ?_
        rintro r S' ⟨hr7, rfl⟩
        rcases hr7 with rfl | rfl
        · constructor
          refine CallM.of rfl (flip_sc l (a1 + 1 + 2 + 1 + 1) 80 rest T1 hl (by omega) (by omega) (by omega) (by omega)) ?_
          rintro r S' ⟨hr8, rfl⟩
          rcases hr8 with rfl | rfl
          · constructor
            refine CallM.of rfl (odd_sc l (a1 + 1 + 2 + 1 + 1 + 1) rest T1 hl (by omega) (by omega)) ?_
            rintro r S' ⟨v, hv, rfl, rfl⟩
            obtain ⟨t', T', k1, k2, k3⟩ := hr2.app (y := gz cPb ⟨v, k, false⟩) (b := 32) hx rfl (by simp [lim]; omega)
            constructor
            refine Opr.of (k1 _ rfl) ?_
            constructor
            refine ⟨by unfold inR; omega, ?_⟩
            refine ⟨(p ++ [⟨v, k, false⟩], _, T', tt + d, a1 + 1 + 2 + 1 + 1 + 1 + 2), ⟨?_, by simp only [List.length_append, List.length_cons, List.length_nil]; omega, ⟨by simp only; omega, by simp only [List.length_append, List.length_cons, List.length_nil]; omega⟩, ⟨by simp only; omega, by simp only [List.length_append, List.length_cons, List.length_nil]; omega⟩, k3, by simpa using k2⟩, by simp only [List.length_append, List.length_cons, List.length_nil]; omega, ?_, rfl⟩
            · intro b hb
              rcases List.mem_append.1 hb with hb | hb
              · exact hok b hb
              · rw [List.mem_singleton.1 hb]; exact ⟨⟨by simp only; omega, by simp only; omega⟩, hkk⟩
            · simp; rfl
          · obtain ⟨t', T', k1, k2, k3⟩ := hr2.app (y := gz cPb ⟨tt + d, k, false⟩) (b := 32) hx rfl (by simp [lim]; omega)
            constructor
            refine Opr.of (k1 _ rfl) ?_
            constructor
            refine ⟨by unfold inR; omega, ?_⟩
            refine ⟨(p ++ [⟨tt + d, k, false⟩], _, T', tt + d, a1 + 1 + 2 + 1 + 1 + 1), ⟨?_, by simp only [List.length_append, List.length_cons, List.length_nil]; omega, ⟨by simp only; omega, by simp only [List.length_append, List.length_cons, List.length_nil]; omega⟩, ⟨by simp only; omega, by simp only [List.length_append, List.length_cons, List.length_nil]; omega⟩, k3, by simpa using k2⟩, by simp only [List.length_append, List.length_cons, List.length_nil]; omega, ?_, rfl⟩
            · intro b hb
              rcases List.mem_append.1 hb with hb | hb
              · exact hok b hb
              · rw [List.mem_singleton.1 hb]; exact ⟨⟨by simp only; omega, by simp only; omega⟩, hkk⟩
            · simp; rfl
        · constructor
          refine CallM.of rfl (next_sc l (a1 + 1 + 2 + 1 + 1) _ rest T1 hl (by omega) (by omega) (by omega) (by omega)) ?_
          rintro r S' ⟨j, hj, rfl, rfl⟩
          constructor
          refine Elt.map (by omega) (by omega) fun y hy => ⟨rfl, ?_⟩
          have hyk : y.key ∈ keys6 := List.mem_cons_of_mem _ (List.mem_cons_of_mem _ (hxo.keys.subset (List.mem_map_of_mem (List.mem_of_getElem? hy))))
          constructor
          refine CallM.of rfl (flip_sc l (a1 + 1 + 2 + 1 + 1 + 1) 80 rest T1 hl (by omega) (by omega) (by omega) (by omega)) ?_
          rintro r S' ⟨hr8, rfl⟩
          rcases hr8 with rfl | rfl
          · constructor
            refine CallM.of rfl (odd_sc l (a1 + 1 + 2 + 1 + 1 + 1 + 1) rest T1 hl (by omega) (by omega)) ?_
            rintro r S' ⟨v, hv, rfl, rfl⟩
            obtain ⟨t', T', k1, k2, k3⟩ := hr2.app (y := gz cPb ⟨v, y.key, false⟩) (b := 32) hx rfl (by simp [lim]; omega)
            constructor
            refine Opr.of (k1 _ rfl) ?_
            constructor
            refine ⟨by unfold inR; omega, ?_⟩
            refine ⟨(p ++ [⟨v, y.key, false⟩], _, T', tt + d, a1 + 1 + 2 + 1 + 1 + 1 + 1 + 2), ⟨?_, by simp only [List.length_append, List.length_cons, List.length_nil]; omega, ⟨by simp only; omega, by simp only [List.length_append, List.length_cons, List.length_nil]; omega⟩, ⟨by simp only; omega, by simp only [List.length_append, List.length_cons, List.length_nil]; omega⟩, k3, by simpa using k2⟩, by simp only [List.length_append, List.length_cons, List.length_nil]; omega, ?_, rfl⟩
            · intro b hb
              rcases List.mem_append.1 hb with hb | hb
              · exact hok b hb
              · rw [List.mem_singleton.1 hb]; exact ⟨⟨by simp only; omega, by simp only; omega⟩, hyk⟩
            · simp; rfl
          · obtain ⟨t', T', k1, k2, k3⟩ := hr2.app (y := gz cPb ⟨tt + d, y.key, false⟩) (b := 32) hx rfl (by simp [lim]; omega)
            constructor
            refine Opr.of (k1 _ rfl) ?_
            constructor
            refine ⟨by unfold inR; omega, ?_⟩
            refine ⟨(p ++ [⟨tt + d, y.key, false⟩], _, T', tt + d, a1 + 1 + 2 + 1 + 1 + 1 + 1), ⟨?_, by simp only [List.length_append, List.length_cons, List.length_nil]; omega, ⟨by simp only; omega, by simp only [List.length_append, List.length_cons, List.length_nil]; omega⟩, ⟨by simp only; omega, by simp only [List.length_append, List.length_cons, List.length_nil]; omega⟩, k3, by simpa using k2⟩, by simp only [List.length_append, List.length_cons, List.length_nil]; omega, ?_, rfl⟩
            · intro b hb
              rcases List.mem_append.1 hb with hb | hb
              · exact hok b hb
              · rw [List.mem_singleton.1 hb]; exact ⟨⟨by simp only; omega, by simp only; omega⟩, hyk⟩
            · simp; rfl
    · constructor
      exact ⟨p, a1, T1, ⟨hok, by omega⟩, ⟨by omega, by omega⟩, hx, hr2, rfl⟩

/-! ### Where an instance is -/
theorem pf_evL {f : FuncId} {args : List PV} {r : PV} (h : (evFn tabL.find (fun _ _ _ => none) 400 60 f (args.map .p) mem0).bind (fun x => x.1.still x.2) = some r) : PFun PG f args r := by
  obtain ⟨⟨rv, S⟩, h1, h2⟩ := Option.bind_eq_some_iff.1 h
  refine (evFn_sound mix (BT.ok tabL tabL_ok) callOk_none 400 60 f _ mem0 _ _ rfl h1).mono ?_
  rintro r' S'' ⟨rfl, rfl⟩
  exact h2
def posK (x : List In) (k : List UInt8) : Nat := (x.map In.key).idxOf k
theorem idkey_pf (s : List UInt8) (h : s ∈ ids) : PFun PG 155 [.str s] (.bool true) := by
  simp only [ids, List.mem_cons, List.not_mem_nil, or_false] at h
  rcases h with rfl | rfl | rfl | rfl
  all_goals exact pf_evP (rv := .p (.bool true)) (by kernel_rfl) rfl
theorem mom_pf (t : Int) : PFun PG 96 [.int .i64 t] (.bool (decide (okT t))) := by
  by_cases h : okT t
  · rw [decide_eq_true h]
    refine walk_96 rfl (by simp) ?_
    constructor
    refine Cmp.yes h.1 ?_
    constructor
    refine Cmp.yes h.2 ?_
    constructor
    exact ⟨rfl⟩
  · rw [decide_eq_false h]
    refine walk_96 rfl (by simp) ?_
    constructor
    refine ⟨fun h1 => ?_, fun h1 => ?_⟩
    · constructor
      refine Cmp.no (fun h2 => h ⟨h1, h2⟩) ?_
      constructor
      exact ⟨rfl⟩
    · constructor
      exact ⟨rfl⟩
theorem hf_pf (rise fall : Int) (h1 : 1 ≤ rise ∧ rise ≤ 3) (h2 : 1 ≤ fall ∧ fall ≤ 3) : PFun PG 153 [.agg [.int .i64 rise, .int .i64 fall]] (.int .i64 0) := by
  refine walk_153 rfl (by simp) ?_
  constructor
  refine CallV.of (inside_pf _ _ _ (by omega) (by omega)) ?_
  constructor
  refine CallV.of (inside_pf _ _ _ (by omega) (by omega)) ?_
  constructor
  exact ⟨rfl⟩
end Go.Ag
/- HealthIsByItself: places, checks of instances and probes. -/
namespace Go.Ag
open Go
set_option linter.unusedVariables false
set_option linter.unusedSimpArgs false
set_option maxRecDepth 100000

/-- The place of a key among keys that rise. -/
def posL (ks : List (List UInt8)) (k : List UInt8) : Nat := (ks.filter fun y => decide (y < k)).length
abbrev posI (x : List In) (k : List UInt8) : Nat := posL (x.map In.key) k
theorem posL_ok {ks : List (List UInt8)} (h : ks.Sublist ids) : (∀ k ∈ ks, posL ks k < ks.length ∧ ks[posL ks k]? = some k) := by
  unfold ids at h
  iterate 5 all_goals try (rcases h with _ | ⟨_, h⟩ | ⟨_, h⟩)
  all_goals decide
theorem posL_inj {ks : List (List UInt8)} (h : ks.Sublist ids) {k k' : List UInt8} (hk : k ∈ ks) (hk' : k' ∈ ks) (he : posL ks k = posL ks k') : k = k' := by
  have h1 := (posL_ok h k hk).2
  have h2 := (posL_ok h k' hk').2
  rw [he, h2] at h1
  exact (Option.some.inj h1).symm
theorem place_pf (x : List In) (hx : InsOk x) (k : List UInt8) (hk : k ∈ keys6) : PFun PG 97 [.sl (ins x), .str k] (.tup [.int .i64 (posI x k), .bool ((x.map In.key).contains k)]) := by
  have hs := hx.keys
  have hne := hx.ne
  clear hx
  unfold ids at hs
  simp only [keys6, kNone, ids, List.mem_cons, List.not_mem_nil, or_false] at hk
  rcases x with _ | ⟨p1, _ | ⟨p2, _ | ⟨p3, _ | ⟨p4, _ | ⟨p5, x⟩⟩⟩⟩⟩
  · exact absurd rfl hne
  all_goals
    simp only [List.map_cons, List.map_nil] at hs
  · rcases p1 with ⟨k1, w1⟩
    simp only at hs
    iterate 5 all_goals try (rcases hs with _ | ⟨_, hs⟩ | ⟨_, hs⟩)
    all_goals
      rcases hk with rfl | rfl | rfl | rfl | rfl | rfl
      all_goals exact pf_evL (by kernel_rfl)
  · rcases p1 with ⟨k1, w1⟩
    rcases p2 with ⟨k2, w2⟩
    simp only at hs
    iterate 5 all_goals try (rcases hs with _ | ⟨_, hs⟩ | ⟨_, hs⟩)
    all_goals
      rcases hk with rfl | rfl | rfl | rfl | rfl | rfl
      all_goals exact pf_evL (by kernel_rfl)
  · rcases p1 with ⟨k1, w1⟩
    rcases p2 with ⟨k2, w2⟩
    rcases p3 with ⟨k3, w3⟩
    simp only at hs
    iterate 5 all_goals try (rcases hs with _ | ⟨_, hs⟩ | ⟨_, hs⟩)
    all_goals
      rcases hk with rfl | rfl | rfl | rfl | rfl | rfl
      all_goals exact pf_evL (by kernel_rfl)
  · rcases p1 with ⟨k1, w1⟩
    rcases p2 with ⟨k2, w2⟩
    rcases p3 with ⟨k3, w3⟩
    rcases p4 with ⟨k4, w4⟩
    simp only at hs
    iterate 5 all_goals try (rcases hs with _ | ⟨_, hs⟩ | ⟨_, hs⟩)
    all_goals
      rcases hk with rfl | rfl | rfl | rfl | rfl | rfl
      all_goals exact pf_evL (by kernel_rfl)
  · have := hs.length_le; simp at this

theorem idsRise : ids.Pairwise (fun a b => strBin .leq b a = some (.bool false)) := by
  unfold ids
  refine .cons ?_ (.cons ?_ (.cons ?_ (.cons ?_ .nil)))
  all_goals intro b hb; simp at hb
  · rcases hb with rfl | rfl | rfl <;> rfl
  · rcases hb with rfl | rfl <;> rfl
  · subst hb; rfl
theorem InsOk.adj {x : List In} (h : InsOk x) {i : Nat} {p q : In} (hp : x[i]? = some p) (hq : x[i + 1]? = some q) : strBin .leq q.key p.key = some (.bool false) := by
  have hk := idsRise.sublist h.keys
  rw [List.pairwise_iff_getElem] at hk
  obtain ⟨l1, e1⟩ := List.getElem?_eq_some_iff.1 hp
  obtain ⟨l2, e2⟩ := List.getElem?_eq_some_iff.1 hq
  have := hk i (i + 1) (by simpa using l1) (by simpa using l2) (by omega)
  simpa [e1, e2] using this
theorem ci_pf (x : List In) (hx : InsOk x) : PFun PG 95 [.sl (ins x)] (.int .i64 0) := by
  have hlen : ((ins x).length : Int) = x.length := by simp
  have hx4 := hx.len
  refine walk_95 rfl (by simp) ?_
  constructor
  refine Cmp.no (by omega) ?_
  constructor
  refine LoopF.of (fun i : Nat => ([(0, .p (.sl (ins x))), (8, .p (.sl (ins x))), (9, vi (ins x).length), (10, vi i)], mem0)) (fun i => x.length - i) (fun i => i ≤ x.length) 0 (Nat.zero_le _) rfl rfl ?_
  intro i hi
  constructor
  refine ⟨fun h1 => ?_, fun h1 => ?_⟩
  · rw [hlen] at h1
    constructor
    refine Elt.map (by omega) (by omega) fun p hp => ⟨rfl, ?_⟩
    have hp : x[i]? = some p := hp
    have hm := List.mem_of_getElem? hp
    have hw := hx.w p hm
    constructor
    refine CallV.of (idkey_pf p.key (hx.keys.subset (List.mem_map_of_mem hm))) ?_
    constructor
    refine ⟨fun h2 => ?_, fun h2 => ?_⟩
    case' refine_1 =>
      constructor
      refine ⟨by unfold inR; omega, ?_⟩
      constructor
      refine Elt.map (by omega) (by omega) fun q hq => ⟨rfl, ?_⟩
      have ha := hx.adj (i := i - 1) (p := q) (q := p) (by rw [show ((i : Int) - 1).toNat = i - 1 by omega] at hq; exact hq) (by rw [show i - 1 + 1 = i by omega]; exact hp)
      constructor
      refine Opr.of (r := .p (.bool false)) (by rw [ha]; rfl) ?_
    all_goals
      constructor
      refine CallV.of (inside_pf _ _ _ (by omega) (by omega)) ?_
      constructor
      refine ⟨by unfold inR; omega, ?_⟩
      exact ⟨i + 1, by omega, by omega, rfl, rfl⟩
  · constructor
    exact ⟨rfl⟩

abbrev keysOf (x : List In) : List (List UInt8) := x.map In.key
def prevAt (p : List Pb) (i : Nat) : Option Int := if i = 0 then none else (p[i - 1]?).map Pb.t
set_option maxHeartbeats 2000000 in
theorem cp_pf (x : List In) (hx : InsOk x) (p : List Pb) (hp : ∀ b ∈ p, PbOk b) (hl : p.length ≤ 100) : PFun PG 36 [.sl (ins x), .sl (pbs p)] (.int .i64 (cpL (keysOf x) none p)) := by
  have hlen : ((pbs p).length : Int) = p.length := by simp
  refine walk_36 rfl (by simp) ?_
  constructor
  refine CallV.of (ci_pf x hx) ?_
  constructor
  refine Cmp.yes rfl ?_
  constructor
  refine Cmp.no (by omega) ?_
  constructor
  refine LoopF.of (fun i : Nat => ([(0, .p (.sl (ins x))), (1, .p (.sl (pbs p))), (18, .p (.sl (pbs p))), (19, vi (pbs p).length), (20, vi i)], mem0)) (fun i => p.length - i) (fun i => i ≤ p.length ∧ cpL (keysOf x) none p = cpL (keysOf x) (prevAt p i) (p.drop i)) 0 ⟨by omega, rfl⟩ rfl rfl ?_
  rintro i ⟨hi, hc⟩
  constructor
  refine ⟨fun h1 => ?_, fun h1 => ?_⟩
  · rw [hlen] at h1
    constructor
    refine Elt.map (by omega) (by omega) fun b hb => ⟨rfl, ?_⟩
    have hb : p[i]? = some b := hb
    have ok := hp b (List.mem_of_getElem? hb)
    have hdrop : p.drop i = b :: p.drop (i + 1) := by
      obtain ⟨hlt, he⟩ := List.getElem?_eq_some_iff.1 hb
      rw [← he]
      exact List.drop_eq_getElem_cons hlt
    have hprev : prevAt p (i + 1) = some b.t := by simp [prevAt, hb]
    rw [hdrop] at hc
    simp only [cpL] at hc
    have hm := mom_pf b.t
    have hpl := place_pf x hx b.inst ok.inst
    by_cases hok : okT b.t
    · rw [decide_eq_true hok] at hm
      rw [if_pos hok] at hc
      constructor
      refine CallV.of hm ?_
      by_cases hin : b.inst ∈ keysOf x
      · rw [show (x.map In.key).contains b.inst = true by simpa using hin] at hpl
        rw [if_pos hin] at hc
        constructor
        refine CallV.of hpl ?_
        constructor
        refine ⟨fun h2 => ?_, fun h2 => ?_⟩
        · constructor
          refine ⟨by unfold inR; omega, ?_⟩
          constructor
          refine Elt.map (by omega) (by omega) fun q hq => ⟨rfl, ?_⟩
          have hq : p[i - 1]? = some q := by rw [show ((i : Int) - 1).toNat = i - 1 by omega] at hq; exact hq
          have hpv : prevAt p i = some q.t := by simp [prevAt, hq]; omega
          rw [hpv] at hc
          simp only [decide_eq_true_eq] at hc
          constructor
          refine ⟨fun h3 => ?_, fun h3 => ?_⟩
          · rw [if_pos h3] at hc
            constructor
            exact ⟨by rw [hc]; rfl⟩
          · rw [if_neg h3] at hc
            constructor
            refine ⟨by unfold inR; omega, ?_⟩
            exact ⟨i + 1, ⟨by omega, by rw [hprev]; exact hc⟩, by omega, rfl, rfl⟩
        · have hi0 : i = 0 := by omega
          have hpv : prevAt p i = none := by simp [prevAt, hi0]
          rw [hpv] at hc
          simp only [Bool.false_eq_true, if_false] at hc
          constructor
          refine ⟨by unfold inR; omega, ?_⟩
          exact ⟨i + 1, ⟨by omega, by rw [hprev]; exact hc⟩, by omega, rfl, rfl⟩
      · rw [show (x.map In.key).contains b.inst = false by simpa using hin] at hpl
        rw [if_neg hin] at hc
        constructor
        refine CallV.of hpl ?_
        constructor
        exact ⟨by rw [hc]; rfl⟩
    · rw [decide_eq_false hok] at hm
      rw [if_neg hok] at hc
      constructor
      refine CallV.of hm ?_
      constructor
      exact ⟨by rw [hc]; rfl⟩
  · rw [hlen] at h1
    have hd : p.drop i = [] := List.drop_eq_nil_iff.2 (by omega)
    rw [hd] at hc
    simp only [cpL] at hc
    constructor
    exact ⟨by rw [hc]; rfl⟩
abbrev hth (rise fall : Int) : PV := .agg [.int .i64 rise, .int .i64 fall]
theorem hlf_pf (x : List In) (hx : InsOk x) (rise fall : Int) (h1 : 1 ≤ rise ∧ rise ≤ 3) (h2 : 1 ≤ fall ∧ fall ≤ 3) (p : List Pb) (hp : ∀ b ∈ p, PbOk b) (hl : p.length ≤ 100) :
    PFun PG 93 [.sl (ins x), hth rise fall, .sl (pbs p)] (.int .i64 (cpL (keysOf x) none p)) := by
  refine walk_93 rfl (by simp) ?_
  constructor
  refine CallV.of (ci_pf x hx) ?_
  constructor
  refine Cmp.yes rfl ?_
  constructor
  refine CallV.of (hf_pf rise fall h1 h2) ?_
  constructor
  refine Cmp.yes rfl ?_
  constructor
  refine CallV.of (cp_pf x hx p hp hl) ?_
  constructor
  exact ⟨rfl⟩

/-! ### Turns -/
abbrev cHs (s : Hs) : List PV := [.bool s.1, .int .i64 s.2]
theorem flHs : Fl cHs 2 := ⟨fun _ => rfl, fun x y hy => by simp at hy; rcases hy with rfl | rfl <;> rfl, by omega⟩
abbrev rowS (hs : List Hs) : Blk := .cells 456 (rowz cHs hs)
theorem probed_sc (hs : List Hs) (i : Nat) (d : Bool) (n : Int) (hi : hs[i]? = some (d, n)) (T : Toks) (rise fall : Int) (good : Bool) (hn : 0 ≤ n ∧ n ≤ 1000) :
    SC PG 154 [.ptr 0 (i * 2), .agg [vi rise, vi fall], vb good] ⟨[], [rowS hs], T⟩ fun r S' => r = vb (probe1 rise fall (d, n) good).1 ∧ S' = ⟨[], [rowS (hs.set i (probe1 rise fall (d, n) good).2)], T⟩ := by
  have hlt := (List.getElem?_eq_some_iff.1 hi).1
  have h2 : (hs.set i (d, n + 1))[i]? = some (d, n + 1) := List.getElem?_set_self hlt
  by_cases hg : good = d
  · subst hg
    have e1 : ∀ hm : n + 1 < most rise fall good, probe1 rise fall (good, n) good = (false, (good, n + 1)) := fun hm => by simp [probe1, hm]
    have e2 : ∀ hm : ¬ n + 1 < most rise fall good, probe1 rise fall (good, n) good = (true, (!good, 0)) := fun hm => by simp [probe1, hm]
    have h3 : (((hs.set i (good, n + 1)).set i (!good, n + 1)))[i]? = some (!good, n + 1) := List.getElem?_set_self (by simpa using hlt)
    cases good
    all_goals
      refine walkO_154 rfl (by simp) ?_
      constructor
      refine Opr.of (ld_zf flHs (k := 0) (xs := hs) rfl hi (by omega) rfl) ?_
      constructor
      refine Opr.of (ld_zf flHs (k := 1) (xs := hs) rfl hi (by omega) rfl) ?_
      constructor
      refine ⟨by unfold inR; omega, ?_⟩
      constructor
      refine Opr.of (st_zf flHs (k := 1) (xs := hs) (x := _) (y := (_, n + 1)) (v := .int .i64 (n + 1)) rfl hi (by omega) rfl rfl rfl rfl) ?_
      constructor
      refine Opr.of (ld_zf flHs (k := 0) (xs := hs.set i (_, n + 1)) rfl h2 (by omega) rfl) ?_
      constructor
      refine Opr.of (ld_zf flHs (k := 1) (xs := hs.set i (_, n + 1)) rfl h2 (by omega) rfl) ?_
      constructor
      refine ⟨fun hm => ?_, fun hm => ?_⟩
      · constructor
        rw [e1 hm]
        exact ⟨rfl, rfl⟩
      · constructor
        refine Opr.of (ld_zf flHs (k := 0) (xs := hs.set i (_, n + 1)) rfl h2 (by omega) rfl) ?_
        constructor
        refine Opr.of (st_zf flHs (k := 0) (xs := hs.set i (_, n + 1)) (x := (_, n + 1)) (y := (_, n + 1)) (v := .bool _) rfl h2 (by omega) rfl rfl rfl rfl) ?_
        constructor
        refine Opr.of (st_zf flHs (k := 1) (xs := (hs.set i (_, n + 1)).set i (_, n + 1)) (x := (_, n + 1)) (y := (_, 0)) (v := .int .i64 0) rfl h3 (by omega) rfl rfl rfl rfl) ?_
        constructor
        rw [e2 hm]
        exact ⟨rfl, by simp only [List.set_set]; rfl⟩
  · have e : probe1 rise fall (d, n) good = (false, (d, 0)) := by simp [probe1, hg]
    cases good <;> cases d
    all_goals first | exact absurd rfl hg | skip
    all_goals
      refine walkO_154 rfl (by simp) ?_
      constructor
      refine Opr.of (ld_zf flHs (k := 0) (xs := hs) rfl hi (by omega) rfl) ?_
      constructor
      refine Opr.of (st_zf flHs (k := 1) (xs := hs) (x := _) (y := (_, 0)) (v := .int .i64 0) rfl hi (by omega) rfl rfl rfl rfl) ?_
      constructor
      rw [e]
      exact ⟨rfl, rfl⟩
end Go.Ag
/- HealthIsByItself: turns. -/
namespace Go.Ag
open Go
set_option linter.unusedVariables false
set_option linter.unusedSimpArgs false
set_option maxRecDepth 100000

theorem probe1_bound (rise fall : Int) (s : Hs) (good : Bool) (h : 0 ≤ s.2) : 0 ≤ (probe1 rise fall s good).2.2 ∧ (probe1 rise fall s good).2.2 ≤ s.2 + 1 := by
  unfold probe1
  split
  · split
    · simp only; omega
    · simp only; omega
  · simp only; omega
theorem runT_take {pos : List UInt8 → Nat} {n : Nat} {rise fall : Int} {p : List Pb} {i : Nat} {b : Pb} (hb : p[i]? = some b) : runT pos n rise fall (p.take (i + 1)) = stepT pos rise fall (runT pos n rise fall (p.take i)) b := by
  rw [List.take_add_one, hb]
  simp [runT, List.foldl_append]
structure InvT (x : List In) (rise fall : Int) (p : List Pb) (i : Nat) (outs : List Tn) (hs : List Hs) (T : Toks) (q : RV) : Prop where
  le : i ≤ p.length
  run : runT (posI x) x.length rise fall (p.take i) = (outs, hs)
  len : hs.length = x.length
  lo : ∀ s ∈ hs, 0 ≤ s.2 ∧ s.2 ≤ i
  few : outs.length ≤ i
  row : Row [] 3 84 (tns outs) T q
theorem ext_nilT (T : Toks) : Ext [] T := fun i x h => by simp at h
set_option maxHeartbeats 4000000 in
theorem turns_pf (x : List In) (hx : InsOk x) (rise fall : Int) (h1 : 1 ≤ rise ∧ rise ≤ 3) (h2 : 1 ≤ fall ∧ fall ≤ 3) (p : List Pb) (hp : ∀ b ∈ p, PbOk b) (hl : p.length ≤ 100) (hc : cpL (keysOf x) none p = 0) :
    PFun PG 94 [.sl (ins x), hth rise fall, .sl (pbs p), .int .i64 345686400000] (.tup [.sl (tns (runT (posI x) x.length rise fall p).1), .sl ((runT (posI x) x.length rise fall p).2.map (gz cHs))]) := by
  have hlen : ((pbs p).length : Int) = p.length := by simp
  have hxl : (ins x).length = x.length := by simp
  have hx4 := hx.len
  have hright := (cpL_iff (keysOf x) p none).1 hc
  refine walkO_94 rfl (by simp) ?_
  constructor
  refine Opr.of (mks_z flHs (false, 0) rfl (by rw [hxl]; simp [lim]; omega)) ?_
  constructor
  refine LoopF.of (fun s : Nat × List Tn × List Hs × RV × Toks => ([(0, .p (.sl (ins x))), (3, vi 345686400000), (5, .la 5 0), (10, .rs 0 0 (ins x).length 2), (11, s.2.2.2.1), (19, .p (.sl (pbs p))), (20, vi (pbs p).length), (21, vi s.1)], ⟨[(5, [vi rise, vi fall])], [rowS s.2.2.1], s.2.2.2.2⟩)) (fun s => p.length - s.1) (fun s => InvT x rise fall p s.1 s.2.1 s.2.2.1 s.2.2.2.2 s.2.2.2.1) (0, [], List.replicate (ins x).length (false, 0), .nsl true, []) ⟨by simp, by rw [hxl]; rfl, by simp, by intro s hs; rw [List.eq_of_mem_replicate hs]; simp, by simp, Row.nil⟩ rfl rfl ?_
  rintro ⟨i, outs, hs, q, T⟩ hinv
  simp only at hinv
  have hi := hinv.le
  have hr := hinv.row
  rcases hr with ⟨rfl, he⟩ | ⟨t, rfl, ht⟩
  all_goals
    constructor
    refine ⟨fun h3 => ?_, fun h3 => ?_⟩
    · have h3 : (i : Int) < (pbs p).length := h3
      rw [hlen] at h3
      constructor
      refine Elt.map (by simp only; omega) (by simp only; omega) fun b hb => ⟨rfl, ?_⟩
      have hb : p[i]? = some b := hb
      have hbm := List.mem_of_getElem? hb
      obtain ⟨hbt, hbi⟩ := hright.1 b hbm
      have hrun := runT_take (pos := posI x) (n := x.length) (rise := rise) (fall := fall) hb
      rw [hinv.run] at hrun
      have hpl := place_pf x hx b.inst (hp b hbm).inst
      rw [show (x.map In.key).contains b.inst = true by simpa using hbi] at hpl
      obtain ⟨hpos, _⟩ := posL_ok hx.keys b.inst hbi
      have hpos2 : posI x b.inst < x.length := by simpa using hpos
      obtain ⟨⟨d, nn⟩, hd⟩ : ∃ s, hs[posI x b.inst]? = some s := ⟨_, List.getElem?_eq_getElem (by rw [hinv.len]; exact hpos2)⟩
      have hlo := hinv.lo _ (List.mem_of_getElem? hd)
      simp only at hlo
      have hpr := fun g => probed_sc hs (posI x b.inst) d nn hd T rise fall g (by omega)
      have hgd : hs.getD (posI x b.inst) (false, 0) = (d, nn) := by rw [List.getD_eq_getElem?_getD, hd]; rfl
      have hbd := probe1_bound rise fall (d, nn) b.good hlo.1
      have hstep : stepT (posI x) rise fall (outs, hs) b = (if (probe1 rise fall (d, nn) b.good).1 = true then outs ++ [⟨b.t, b.inst, !(probe1 rise fall (d, nn) b.good).2.1⟩] else outs, hs.set (posI x b.inst) (probe1 rise fall (d, nn) b.good).2) := by
        simp only [stepT, hgd]
      rw [hstep] at hrun
      rcases b with ⟨bt, bi, bg⟩
      simp only at hbt hbi hrun hpl hpos hpos2 hd hpr hbd
      have hlo2 : ∀ s ∈ hs.set (posI x bi) (probe1 rise fall (d, nn) bg).2, 0 ≤ s.2 ∧ s.2 ≤ ((i + 1 : Nat) : Int) := by
        intro s hs2
        rcases List.mem_or_eq_of_mem_set hs2 with h | rfl
        · have := hinv.lo s h
          omega
        · omega
      have hln2 : (hs.set (posI x bi) (probe1 rise fall (d, nn) bg).2).length = x.length := by rw [List.length_set, hinv.len]
      have hfew := hinv.few
      have hpr2 := hpr bg
      generalize hq : probe1 rise fall (d, nn) bg = pr at hpr2 hrun hlo2 hln2
      obtain ⟨b1, d2, n2⟩ := pr
      simp only at hpr2 hrun hlo2 hln2
      have hi2 : (hs.set (posI x bi) (d2, n2))[posI x bi]? = some (d2, n2) := List.getElem?_set_self (by rw [hinv.len]; exact hpos2)
      clear hpr hstep hgd hq
      constructor
      refine Cmp.no (by have := hbt.2; simp only; omega) ?_
      constructor
      refine CallV.of hpl ?_
      cases bg
      all_goals
        constructor
        refine Opr.of (ia_z _ (by rw [hxl]; exact hpos2)) ?_
        constructor
        refine CallD.of rfl hpr2 ?_
        cases b1
        · simp only [Bool.false_eq_true, if_false] at hrun
          constructor
          refine ⟨by unfold inR; omega, ?_⟩
          exact ⟨(i + 1, outs, _, _, T), ⟨by simp only; omega, hrun, hln2, hlo2, by simp only; omega, hinv.row⟩, by simp only; omega, rfl, rfl⟩
        · simp only [if_true] at hrun
          obtain ⟨t', T', k1, k2, k3⟩ := hinv.row.app (y := gz cTn ⟨bt, bi, !d2⟩) (b := 32) (ext_nilT _) rfl (by simp [lim]; omega)
          constructor
          refine Opr.of (ia_z _ (by rw [hxl]; exact hpos2)) ?_
          constructor
          refine Opr.of (ld_zf flHs (k := 0) (xs := hs.set (posI x bi) (d2, n2)) rfl hi2 (by omega) rfl) ?_
          cases d2
          all_goals
            constructor
            refine Opr.of (k1 _ rfl) ?_
            constructor
            refine ⟨by unfold inR; omega, ?_⟩
            exact ⟨(i + 1, outs ++ [⟨bt, bi, _⟩], _, _, T'), ⟨by simp only; omega, hrun, hln2, hlo2, by simp only [List.length_append, List.length_cons, List.length_nil]; omega, by simpa using k2⟩, by simp only; omega, rfl, rfl⟩
    · have h3 : ¬ (i : Int) < (pbs p).length := h3
      rw [hlen] at h3
      have hrun := hinv.run
      rw [List.take_of_length_le (by omega)] at hrun
      rw [hrun]
      have hst := still_zn flHs 4 (S := ⟨[], [rowS hs], T⟩) (b := 0) (k := (ins x).length) (ty := 456) (xs := hs) rfl (by rw [hxl, hinv.len]; exact Nat.le_refl _)
      rw [List.take_of_length_le (by rw [hxl, hinv.len]; exact Nat.le_refl _)] at hst
      constructor
      first
        | (refine ⟨?_⟩
           show Option.map PV.tup (mapO (RV.stillN 5 ⟨[], [rowS hs], T⟩) [.own (tns outs) t, .rs 0 0 (ins x).length 2]) = _
           simp only [mapO, hst]
           rfl)
        | (refine ⟨?_⟩
           show Option.map PV.tup (mapO (RV.stillN 5 ⟨[], [rowS hs], T⟩) [.nsl true, .rs 0 0 (ins x).length 2]) = _
           simp only [mapO, hst, he]
           rfl)
theorem Turns_ok (x : List In) (hx : InsOk x) (rise fall : Int) (h1 : 1 ≤ rise ∧ rise ≤ 3) (h2 : 1 ≤ fall ∧ fall ≤ 3) (p : List Pb) (hp : ∀ b ∈ p, PbOk b) (hl : p.length ≤ 100) (hc : cpL (keysOf x) none p = 0) :
    PFun PG 35 [.sl (ins x), hth rise fall, .sl (pbs p)] (.tup [.sl (tns (runT (posI x) x.length rise fall p).1), .int .i64 0]) := by
  refine walk_35 rfl (by simp) ?_
  constructor
  refine CallV.of (hlf_pf x hx rise fall h1 h2 p hp hl) ?_
  constructor
  refine Cmp.yes hc ?_
  constructor
  refine CallV.of (turns_pf x hx rise fall h1 h2 p hp hl hc) ?_
  constructor
  exact ⟨rfl⟩
theorem Turns_bad (x : List In) (hx : InsOk x) (rise fall : Int) (h1 : 1 ≤ rise ∧ rise ≤ 3) (h2 : 1 ≤ fall ∧ fall ≤ 3) (p : List Pb) (hp : ∀ b ∈ p, PbOk b) (hl : p.length ≤ 100) (hc : ¬ cpL (keysOf x) none p = 0) :
    PFun PG 35 [.sl (ins x), hth rise fall, .sl (pbs p)] (.tup [.sl [], .int .i64 (cpL (keysOf x) none p)]) := by
  refine walk_35 rfl (by simp) ?_
  constructor
  refine CallV.of (hlf_pf x hx rise fall h1 h2 p hp hl) ?_
  constructor
  refine Cmp.no hc ?_
  constructor
  exact ⟨rfl⟩
end Go.Ag
/- HealthIsByItself: the probes and the turns of one instance. -/
namespace Go.Ag
open Go
set_option linter.unusedVariables false
set_option linter.unusedSimpArgs false
set_option maxRecDepth 100000

theorem drop_getP {α : Type} {xs ys : List α} {j : Nat} (h : ys.drop j = xs.drop j) : ys[j]? = xs[j]? := by
  have : (ys.drop j)[0]? = (xs.drop j)[0]? := by rw [h]
  simpa using this
theorem drop_moreP {α : Type} {xs ys : List α} {j : Nat} (h : ys.drop j = xs.drop j) : ys.drop (j + 1) = xs.drop (j + 1) := by
  have : (ys.drop j).drop 1 = (xs.drop j).drop 1 := by rw [h]
  simpa [List.drop_drop, Nat.add_comm] using this
theorem set_takeP {α : Type} {ys : List α} {c : Nat} (x : α) (h : c < ys.length) : (ys.set c x).take (c + 1) = ys.take c ++ [x] := by
  rw [List.take_add_one, List.take_set_of_le (Nat.le_refl _), List.getElem?_set_self h]
  rfl

abbrev rowP (xs : List Pb) : Blk := .cells 159 (rowz cPb xs)
theorem ixp_sc (f : FuncId) (c b : Nat) (φ : Pb → Bool) (m : List Blk) (T : Toks) (xs : List Pb) (hb : m[b]? = some (rowP xs)) (hl : xs.length ≤ 1000)
    (h : ∀ s ∈ xs, SC PG f [.agg (fz cPb s), .ptr c 0] ⟨[], m, T⟩ fun r S' => r = vb (φ s) ∧ S' = ⟨[], m, T⟩) :
    SC PG 98 [.rs b 0 xs.length 3, .fn f [] [.ptr c 0]] ⟨[], m, T⟩ fun r S' => ((r = vi (-1) ∧ ∀ s ∈ xs, φ s = false) ∨ ∃ k : Nat, k < xs.length ∧ r = vi k ∧ (∀ s ∈ xs.take k, φ s = false) ∧ ∀ s, xs[k]? = some s → φ s = true) ∧ S' = ⟨[], m, T⟩ := by
  refine walkO_98 rfl (by simp) ?_
  constructor
  refine LoopF.of (fun i : Nat => ([(0, .rs b 0 xs.length 3), (1, .fn f [] [.ptr c 0]), (7, vi xs.length), (8, vi i)], ⟨[], m, T⟩)) (fun i => xs.length - i) (fun i => i ≤ xs.length ∧ ∀ s ∈ xs.take i, φ s = false) 0 ⟨by omega, by simp⟩ rfl rfl ?_
  rintro i ⟨hi, hφ⟩
  constructor
  refine ⟨fun h1 => ?_, fun h1 => ?_⟩
  · obtain ⟨x, hx⟩ : ∃ x, xs[i]? = some x := ⟨_, List.getElem?_eq_getElem (by omega)⟩
    have hm := List.mem_of_getElem? hx
    constructor
    refine Opr.of (ia_z _ (by omega)) ?_
    constructor
    refine Opr.of (ld_z flPb (xs := xs) (x := x) hb hx) ?_
    constructor
    refine CallM.of rfl (h x hm) ?_
    rintro r S' ⟨rfl, rfl⟩
    cases hp : φ x
    · constructor
      refine ⟨by unfold inR; omega, ?_⟩
      refine ⟨i + 1, ⟨by omega, ?_⟩, by omega, rfl, rfl⟩
      intro s hs
      rw [List.take_add_one, hx] at hs
      rcases List.mem_append.1 hs with hs | hs
      · exact hφ s hs
      · simp at hs; subst hs; exact hp
    · constructor
      exact ⟨.inr ⟨i, by omega, rfl, hφ, fun s hs => by rw [hx] at hs; cases hs; exact hp⟩, rfl⟩
  · constructor
    refine ⟨.inl ⟨rfl, fun s hs => ?_⟩, rfl⟩
    exact hφ s (by rw [List.take_of_length_le (by omega)]; exact hs)
theorem ixp_nil (f : FuncId) (c : Nat) (m : List Blk) (T : Toks) (q : Bool) : SC PG 98 [.nsl q, .fn f [] [.ptr c 0]] ⟨[], m, T⟩ fun r S' => r = vi (-1) ∧ S' = ⟨[], m, T⟩ := by
  refine walkO_98 rfl (by simp) ?_
  constructor
  refine LoopF.of (fun i : Nat => ([(0, .nsl q), (1, .fn f [] [.ptr c 0]), (7, vi 0), (8, vi 0)], ⟨[], m, T⟩)) (fun i => 0) (fun i => True) 0 trivial rfl rfl ?_
  intro i _
  constructor
  refine Cmp.no (by omega) ?_
  constructor
  exact ⟨rfl, rfl⟩
theorem dlp_nil (f : FuncId) (c : Nat) (m : List Blk) (T : Toks) (q : Bool) : SC PG 37 [.nsl q, .fn f [] [.ptr c 0]] ⟨[], m, T⟩ fun r S' => r = .nsl q ∧ S' = ⟨[], m, T⟩ := by
  refine walkO_37 rfl (by simp) ?_
  constructor
  refine CallM.of rfl (ixp_nil f c m T q) ?_
  rintro r S' ⟨rfl, rfl⟩
  constructor
  refine Cmp.yes rfl ?_
  constructor
  exact ⟨rfl, rfl⟩
theorem dlp_sc (f : FuncId) (c b : Nat) (φ : Pb → Bool) (m : List Blk) (T : Toks) (xs : List Pb) (hb : m[b]? = some (rowP xs)) (hl : xs.length ≤ 1000)
    (h : ∀ ys, ∀ s ∈ xs, SC PG f [.agg (fz cPb s), .ptr c 0] ⟨[], m.set b (rowP ys), T⟩ fun r S' => r = vb (φ s) ∧ S' = ⟨[], m.set b (rowP ys), T⟩) :
    SC PG 37 [.rs b 0 xs.length 3, .fn f [] [.ptr c 0]] ⟨[], m, T⟩ fun r S' => ∃ k zs, r = .rs b 0 k 3 ∧ S' = ⟨[], m.set b (rowP zs), T⟩ ∧ k ≤ zs.length ∧ zs.take k = xs.filter fun s => !φ s := by
  have hbl := (List.getElem?_eq_some_iff.1 hb).1
  have hsame := set_same hb
  have hget : ∀ ys, (m.set b (rowP ys))[b]? = some (rowP ys) := fun ys => List.getElem?_set_self hbl
  refine walkO_37 rfl (by simp) ?_
  constructor
  refine CallM.of rfl (ixp_sc f c b φ m T xs hb hl (fun s hs => by have := h xs s hs; rw [hsame] at this; exact this)) ?_
  rintro r S' ⟨hr, rfl⟩
  rcases hr with ⟨rfl, hall⟩ | ⟨k, hk, rfl, hpre, hkk⟩
  · constructor
    refine Cmp.yes rfl ?_
    constructor
    refine ⟨xs.length, xs, rfl, by rw [hsame], Nat.le_refl _, ?_⟩
    rw [List.take_length]
    exact (List.filter_eq_self.2 fun s hs => by rw [hall s hs]; rfl).symm
  · constructor
    refine Cmp.no (by omega) ?_
    constructor
    refine ⟨by unfold inR; omega, ?_⟩
    constructor
    refine LoopF.of (fun s : Nat × Nat × List Pb => ([(0, .rs b 0 xs.length 3), (1, .fn f [] [.ptr c 0]), (5, vi s.1), (6, vi s.2.1)], ⟨[], m.set b (rowP s.2.2), T⟩)) (fun s => xs.length - s.2.1) (fun s => s.1 < s.2.1 ∧ s.2.1 ≤ xs.length ∧ s.2.2.length = xs.length ∧ s.2.2.take s.1 = (xs.take s.2.1).filter (fun s => !φ s) ∧ s.2.2.drop s.2.1 = xs.drop s.2.1) (k, k + 1, xs) ⟨by simp, hk, rfl, ?_, rfl⟩ rfl (by simp only [hsame]; rfl) ?_
    · obtain ⟨x, hx⟩ : ∃ x, xs[k]? = some x := ⟨_, List.getElem?_eq_getElem hk⟩
      show xs.take k = (xs.take (k + 1)).filter fun s => !φ s
      rw [List.take_add_one, hx, List.filter_append]
      rw [List.filter_eq_self.2 fun s hs => by rw [hpre s hs]; rfl]
      simp [hkk x hx]
    rintro ⟨d, j, ys⟩ ⟨hcj, hj, hyl, htk, hdr⟩
    simp only at hcj hj hyl htk hdr
    constructor
    refine ⟨fun h2 => ?_, fun h2 => ?_⟩
    · have h2 : (j : Int) < xs.length := h2
      obtain ⟨x, hx⟩ : ∃ x, xs[j]? = some x := ⟨_, List.getElem?_eq_getElem (by omega)⟩
      have hy : ys[j]? = some x := (drop_getP hdr).trans hx
      have hm := List.mem_of_getElem? hx
      constructor
      refine Opr.of (ia_z _ (by simp only; omega)) ?_
      constructor
      refine Opr.of (ld_z flPb (xs := ys) (x := x) (hget ys) hy) ?_
      constructor
      refine CallM.of rfl (h ys x hm) ?_
      rintro r S' ⟨rfl, rfl⟩
      cases hp : φ x
      · constructor
        refine Opr.of (ia_z _ (by simp only; omega)) ?_
        constructor
        refine Opr.of (st_zs flPb (xs := ys) x hbl (by simp only; omega)) ?_
        constructor
        refine ⟨by unfold inR; simp only; omega, ?_⟩
        constructor
        refine ⟨by unfold inR; simp only; omega, ?_⟩
        refine ⟨(d + 1, j + 1, ys.set d x), ⟨by simp only; omega, by simp only; omega, by simpa using hyl, ?_, ?_⟩, by simp only; omega, rfl, rfl⟩
        · show (ys.set d x).take (d + 1) = (xs.take (j + 1)).filter fun s => !φ s
          rw [set_takeP x (by omega), htk, List.take_add_one, hx, List.filter_append]
          simp [hp]
        · show (ys.set d x).drop (j + 1) = xs.drop (j + 1)
          rw [List.drop_set_of_lt (by omega)]
          exact drop_moreP hdr
      · constructor
        refine ⟨by unfold inR; simp only; omega, ?_⟩
        refine ⟨(d, j + 1, ys), ⟨by simp only; omega, by simp only; omega, hyl, ?_, drop_moreP hdr⟩, by simp only; omega, rfl, rfl⟩
        show ys.take d = (xs.take (j + 1)).filter fun s => !φ s
        rw [htk, List.take_add_one, hx, List.filter_append]
        simp [hp]
    · have h2 : ¬ (j : Int) < xs.length := h2
      obtain rfl : j = xs.length := by omega
      constructor
      refine Opr.of (cut_z (by simp only; omega)) ?_
      constructor
      refine Opr.of (clr_zs flPb (xs := ys) (k := d) (n := xs.length - d) ⟨0, [], false⟩ hbl (by omega) rfl) ?_
      constructor
      refine Opr.of (cut_tz (by simp only; omega)) ?_
      constructor
      refine ⟨d, _, rfl, rfl, ?_, ?_⟩
      · simp; omega
      · rw [List.take_append_of_le_length (by simp; omega), List.take_take, Nat.min_self, htk, List.take_length]
/-- Whose it is. -/
theorem cl39 (k : List UInt8) (w : RV) (c : Nat) (m : List Blk) (T : Toks) (hc : m[c]? = some (.cells 152 [.p (.str k), w])) (s : Pb) :
    SC PG 39 [.agg (fz cPb s), .ptr c 0] ⟨[], m, T⟩ fun r S' => r = vb (!ofP k s) ∧ S' = ⟨[], m, T⟩ := by
  refine walkO_39 rfl (by simp) ?_
  constructor
  refine Opr.of (r := .p (.str k)) (S := ⟨_, m, T⟩) (by simp [opA, ldA, hc, ldCells]; rfl) ?_
  constructor
  refine ⟨fun h => ?_, fun h => ?_⟩
  · constructor
    exact ⟨by rw [show ofP k s = true from decide_eq_true h]; rfl, rfl⟩
  · constructor
    exact ⟨by rw [show ofP k s = false from decide_eq_false h]; rfl, rfl⟩

abbrev rowT (xs : List Tn) : Blk := .cells 169 (rowz cTn xs)
theorem ixt_sc (f : FuncId) (c b : Nat) (φ : Tn → Bool) (m : List Blk) (T : Toks) (xs : List Tn) (hb : m[b]? = some (rowT xs)) (hl : xs.length ≤ 1000)
    (h : ∀ s ∈ xs, SC PG f [.agg (fz cTn s), .ptr c 0] ⟨[], m, T⟩ fun r S' => r = vb (φ s) ∧ S' = ⟨[], m, T⟩) :
    SC PG 99 [.rs b 0 xs.length 3, .fn f [] [.ptr c 0]] ⟨[], m, T⟩ fun r S' => ((r = vi (-1) ∧ ∀ s ∈ xs, φ s = false) ∨ ∃ k : Nat, k < xs.length ∧ r = vi k ∧ (∀ s ∈ xs.take k, φ s = false) ∧ ∀ s, xs[k]? = some s → φ s = true) ∧ S' = ⟨[], m, T⟩ := by
  refine walkO_99 rfl (by simp) ?_
  constructor
  refine LoopF.of (fun i : Nat => ([(0, .rs b 0 xs.length 3), (1, .fn f [] [.ptr c 0]), (7, vi xs.length), (8, vi i)], ⟨[], m, T⟩)) (fun i => xs.length - i) (fun i => i ≤ xs.length ∧ ∀ s ∈ xs.take i, φ s = false) 0 ⟨by omega, by simp⟩ rfl rfl ?_
  rintro i ⟨hi, hφ⟩
  constructor
  refine ⟨fun h1 => ?_, fun h1 => ?_⟩
  · obtain ⟨x, hx⟩ : ∃ x, xs[i]? = some x := ⟨_, List.getElem?_eq_getElem (by omega)⟩
    have hm := List.mem_of_getElem? hx
    constructor
    refine Opr.of (ia_z _ (by omega)) ?_
    constructor
    refine Opr.of (ld_z flTn (xs := xs) (x := x) hb hx) ?_
    constructor
    refine CallM.of rfl (h x hm) ?_
    rintro r S' ⟨rfl, rfl⟩
    cases hp : φ x
    · constructor
      refine ⟨by unfold inR; omega, ?_⟩
      refine ⟨i + 1, ⟨by omega, ?_⟩, by omega, rfl, rfl⟩
      intro s hs
      rw [List.take_add_one, hx] at hs
      rcases List.mem_append.1 hs with hs | hs
      · exact hφ s hs
      · simp at hs; subst hs; exact hp
    · constructor
      exact ⟨.inr ⟨i, by omega, rfl, hφ, fun s hs => by rw [hx] at hs; cases hs; exact hp⟩, rfl⟩
  · constructor
    refine ⟨.inl ⟨rfl, fun s hs => ?_⟩, rfl⟩
    exact hφ s (by rw [List.take_of_length_le (by omega)]; exact hs)
theorem ixt_nil (f : FuncId) (c : Nat) (m : List Blk) (T : Toks) (q : Bool) : SC PG 99 [.nsl q, .fn f [] [.ptr c 0]] ⟨[], m, T⟩ fun r S' => r = vi (-1) ∧ S' = ⟨[], m, T⟩ := by
  refine walkO_99 rfl (by simp) ?_
  constructor
  refine LoopF.of (fun i : Nat => ([(0, .nsl q), (1, .fn f [] [.ptr c 0]), (7, vi 0), (8, vi 0)], ⟨[], m, T⟩)) (fun i => 0) (fun i => True) 0 trivial rfl rfl ?_
  intro i _
  constructor
  refine Cmp.no (by omega) ?_
  constructor
  exact ⟨rfl, rfl⟩
theorem dlt_nil (f : FuncId) (c : Nat) (m : List Blk) (T : Toks) (q : Bool) : SC PG 40 [.nsl q, .fn f [] [.ptr c 0]] ⟨[], m, T⟩ fun r S' => r = .nsl q ∧ S' = ⟨[], m, T⟩ := by
  refine walkO_40 rfl (by simp) ?_
  constructor
  refine CallM.of rfl (ixt_nil f c m T q) ?_
  rintro r S' ⟨rfl, rfl⟩
  constructor
  refine Cmp.yes rfl ?_
  constructor
  exact ⟨rfl, rfl⟩
theorem dlt_sc (f : FuncId) (c b : Nat) (φ : Tn → Bool) (m : List Blk) (T : Toks) (xs : List Tn) (hb : m[b]? = some (rowT xs)) (hl : xs.length ≤ 1000)
    (h : ∀ ys, ∀ s ∈ xs, SC PG f [.agg (fz cTn s), .ptr c 0] ⟨[], m.set b (rowT ys), T⟩ fun r S' => r = vb (φ s) ∧ S' = ⟨[], m.set b (rowT ys), T⟩) :
    SC PG 40 [.rs b 0 xs.length 3, .fn f [] [.ptr c 0]] ⟨[], m, T⟩ fun r S' => ∃ k zs, r = .rs b 0 k 3 ∧ S' = ⟨[], m.set b (rowT zs), T⟩ ∧ k ≤ zs.length ∧ zs.take k = xs.filter fun s => !φ s := by
  have hbl := (List.getElem?_eq_some_iff.1 hb).1
  have hsame := set_same hb
  have hget : ∀ ys, (m.set b (rowT ys))[b]? = some (rowT ys) := fun ys => List.getElem?_set_self hbl
  refine walkO_40 rfl (by simp) ?_
  constructor
  refine CallM.of rfl (ixt_sc f c b φ m T xs hb hl (fun s hs => by have := h xs s hs; rw [hsame] at this; exact this)) ?_
  rintro r S' ⟨hr, rfl⟩
  rcases hr with ⟨rfl, hall⟩ | ⟨k, hk, rfl, hpre, hkk⟩
  · constructor
    refine Cmp.yes rfl ?_
    constructor
    refine ⟨xs.length, xs, rfl, by rw [hsame], Nat.le_refl _, ?_⟩
    rw [List.take_length]
    exact (List.filter_eq_self.2 fun s hs => by rw [hall s hs]; rfl).symm
  · constructor
    refine Cmp.no (by omega) ?_
    constructor
    refine ⟨by unfold inR; omega, ?_⟩
    constructor
    refine LoopF.of (fun s : Nat × Nat × List Tn => ([(0, .rs b 0 xs.length 3), (1, .fn f [] [.ptr c 0]), (5, vi s.1), (6, vi s.2.1)], ⟨[], m.set b (rowT s.2.2), T⟩)) (fun s => xs.length - s.2.1) (fun s => s.1 < s.2.1 ∧ s.2.1 ≤ xs.length ∧ s.2.2.length = xs.length ∧ s.2.2.take s.1 = (xs.take s.2.1).filter (fun s => !φ s) ∧ s.2.2.drop s.2.1 = xs.drop s.2.1) (k, k + 1, xs) ⟨by simp, hk, rfl, ?_, rfl⟩ rfl (by simp only [hsame]; rfl) ?_
    · obtain ⟨x, hx⟩ : ∃ x, xs[k]? = some x := ⟨_, List.getElem?_eq_getElem hk⟩
      show xs.take k = (xs.take (k + 1)).filter fun s => !φ s
      rw [List.take_add_one, hx, List.filter_append]
      rw [List.filter_eq_self.2 fun s hs => by rw [hpre s hs]; rfl]
      simp [hkk x hx]
    rintro ⟨d, j, ys⟩ ⟨hcj, hj, hyl, htk, hdr⟩
    simp only at hcj hj hyl htk hdr
    constructor
    refine ⟨fun h2 => ?_, fun h2 => ?_⟩
    · have h2 : (j : Int) < xs.length := h2
      obtain ⟨x, hx⟩ : ∃ x, xs[j]? = some x := ⟨_, List.getElem?_eq_getElem (by omega)⟩
      have hy : ys[j]? = some x := (drop_getP hdr).trans hx
      have hm := List.mem_of_getElem? hx
      constructor
      refine Opr.of (ia_z _ (by simp only; omega)) ?_
      constructor
      refine Opr.of (ld_z flTn (xs := ys) (x := x) (hget ys) hy) ?_
      constructor
      refine CallM.of rfl (h ys x hm) ?_
      rintro r S' ⟨rfl, rfl⟩
      cases hp : φ x
      · constructor
        refine Opr.of (ia_z _ (by simp only; omega)) ?_
        constructor
        refine Opr.of (st_zs flTn (xs := ys) x hbl (by simp only; omega)) ?_
        constructor
        refine ⟨by unfold inR; simp only; omega, ?_⟩
        constructor
        refine ⟨by unfold inR; simp only; omega, ?_⟩
        refine ⟨(d + 1, j + 1, ys.set d x), ⟨by simp only; omega, by simp only; omega, by simpa using hyl, ?_, ?_⟩, by simp only; omega, rfl, rfl⟩
        · show (ys.set d x).take (d + 1) = (xs.take (j + 1)).filter fun s => !φ s
          rw [set_takeP x (by omega), htk, List.take_add_one, hx, List.filter_append]
          simp [hp]
        · show (ys.set d x).drop (j + 1) = xs.drop (j + 1)
          rw [List.drop_set_of_lt (by omega)]
          exact drop_moreP hdr
      · constructor
        refine ⟨by unfold inR; simp only; omega, ?_⟩
        refine ⟨(d, j + 1, ys), ⟨by simp only; omega, by simp only; omega, hyl, ?_, drop_moreP hdr⟩, by simp only; omega, rfl, rfl⟩
        show ys.take d = (xs.take (j + 1)).filter fun s => !φ s
        rw [htk, List.take_add_one, hx, List.filter_append]
        simp [hp]
    · have h2 : ¬ (j : Int) < xs.length := h2
      obtain rfl : j = xs.length := by omega
      constructor
      refine Opr.of (cut_z (by simp only; omega)) ?_
      constructor
      refine Opr.of (clr_zs flTn (xs := ys) (k := d) (n := xs.length - d) ⟨0, [], false⟩ hbl (by omega) rfl) ?_
      constructor
      refine Opr.of (cut_tz (by simp only; omega)) ?_
      constructor
      refine ⟨d, _, rfl, rfl, ?_, ?_⟩
      · simp; omega
      · rw [List.take_append_of_le_length (by simp; omega), List.take_take, Nat.min_self, htk, List.take_length]
/-- Whose it is. -/
theorem cl42 (k : List UInt8) (w : RV) (c : Nat) (m : List Blk) (T : Toks) (hc : m[c]? = some (.cells 152 [.p (.str k), w])) (s : Tn) :
    SC PG 42 [.agg (fz cTn s), .ptr c 0] ⟨[], m, T⟩ fun r S' => r = vb (!ofT k s) ∧ S' = ⟨[], m, T⟩ := by
  refine walkO_42 rfl (by simp) ?_
  constructor
  refine Opr.of (r := .p (.str k)) (S := ⟨_, m, T⟩) (by simp [opA, ldA, hc, ldCells]; rfl) ?_
  constructor
  refine ⟨fun h => ?_, fun h => ?_⟩
  · constructor
    exact ⟨by rw [show ofT k s = true from decide_eq_true h]; rfl, rfl⟩
  · constructor
    exact ⟨by rw [show ofT k s = false from decide_eq_false h]; rfl, rfl⟩

theorem cloneP_sc (x : Pb) (l : List Pb) (t : Nat) (hl : (x :: l).length ≤ 1000) (m : List Blk) (T : Toks) : SC PG 38 [.own (pbs (x :: l)) t] ⟨[], m, T⟩ fun r S' => r = .rs m.length 0 (x :: l).length 3 ∧ S' = ⟨[], m ++ [rowP (x :: l)], T⟩ := by
  refine walk_38 rfl (by simp) ?_
  constructor
  refine Opr.of (r := .nsl false) rfl ?_
  constructor
  refine Opr.of (app_z flPb (bytes := 32) (xs := x :: l) (.inr ⟨t, rfl⟩) (by simp) (by simp only [lim]; omega)) ?_
  constructor
  exact ⟨rfl, rfl⟩
theorem cloneP_nil (m : List Blk) (T : Toks) : SC PG 38 [.nsl true] ⟨[], m, T⟩ fun r S' => r = .nsl true ∧ S' = ⟨[], m, T⟩ := by
  refine walk_38 rfl (by simp) ?_
  constructor
  exact ⟨rfl, rfl⟩
theorem cloneT_sc (x : Tn) (l : List Tn) (hl : (x :: l).length ≤ 1000) (m : List Blk) (T : Toks) : SC PG 41 [.p (.sl (tns (x :: l)))] ⟨[], m, T⟩ fun r S' => r = .rs m.length 0 (x :: l).length 3 ∧ S' = ⟨[], m ++ [rowT (x :: l)], T⟩ := by
  refine walk_41 rfl (by simp) ?_
  constructor
  refine Opr.of (r := .nsl false) rfl ?_
  constructor
  refine Opr.of (app_z flTn (bytes := 32) (xs := x :: l) (.inl rfl) (by simp) (by simp only [lim]; omega)) ?_
  constructor
  exact ⟨rfl, rfl⟩
theorem cloneT_nil (m : List Blk) (T : Toks) : SC PG 41 [.p (.sl [])] ⟨[], m, T⟩ fun r S' => (∃ q, r = .nsl q) ∧ S' = ⟨[], m, T⟩ := by
  refine walk_41 rfl (by simp) ?_
  constructor
  · constructor
    exact ⟨⟨true, rfl⟩, rfl⟩
  · constructor
    refine Opr.of (r := .nsl false) rfl ?_
    constructor
    refine Opr.of (r := .nsl false) rfl ?_
    constructor
    exact ⟨⟨false, rfl⟩, rfl⟩
theorem eq43_nil (m : List Blk) (T : Toks) (q : Bool) : SC PG 43 [.p (.sl []), .nsl q] ⟨[], m, T⟩ fun r S' => r = vb true ∧ S' = ⟨[], m, T⟩ := by
  refine walkO_43 rfl (by simp) ?_
  constructor
  refine Cmp.yes rfl ?_
  constructor
  refine LoopF.of (fun i : Nat => ([(0, .p (.sl [])), (1, .nsl q), (12, vi 0), (13, vi 0)], ⟨[], m, T⟩)) (fun i => 0) (fun i => True) 0 trivial rfl rfl ?_
  intro i _
  constructor
  refine Cmp.no (by omega) ?_
  constructor
  exact ⟨rfl, rfl⟩
theorem eq_selfT (x : Tn) (S : Mem) : opY (.eqs true [.i, .s, .b]) [.p (.agg [.int .i64 x.t, .str x.inst, .bool x.up]), .agg [.p (.int .i64 x.t), .p (.str x.inst), .p (.bool x.up)]] S = some (vb false, S) := by
  simp [opY, eqA, aggOf, mapO, onlyP, skEqL, skEq]
theorem eq43_sc (l zs : List Tn) (b : Nat) (m : List Blk) (T : Toks) (hb : m[b]? = some (rowT zs)) (hz : zs.take l.length = l) (hl : l.length ≤ 1000) :
    SC PG 43 [.p (.sl (tns l)), .rs b 0 l.length 3] ⟨[], m, T⟩ fun r S' => r = vb true ∧ S' = ⟨[], m, T⟩ := by
  have hlen : (tns l).length = l.length := by simp
  refine walkO_43 rfl (by simp) ?_
  constructor
  refine Cmp.yes (by rw [hlen]) ?_
  constructor
  refine LoopF.of (fun i : Nat => ([(0, .p (.sl (tns l))), (1, .rs b 0 l.length 3), (12, vi (tns l).length), (13, vi i)], ⟨[], m, T⟩)) (fun i => l.length - i) (fun i => i ≤ l.length) 0 (by omega) rfl rfl ?_
  intro i hi
  constructor
  refine ⟨fun h1 => ?_, fun h1 => ?_⟩
  · rw [hlen] at h1
    obtain ⟨x, hx⟩ : ∃ x, l[i]? = some x := ⟨_, List.getElem?_eq_getElem (by omega)⟩
    have hx2 : zs[i]? = some x := by
      rw [← hz, List.getElem?_take] at hx
      split at hx
      · exact hx
      · cases hx
    constructor
    refine Elt.mk' (x := gz cTn x) (by omega) (by simp [hx]) ⟨rfl, ?_⟩
    constructor
    refine Opr.of (ia_z _ (by omega)) ?_
    constructor
    refine Opr.of (ld_z flTn (xs := zs) (x := x) hb hx2) ?_
    constructor
    refine Opr.of (eq_selfT x _) ?_
    constructor
    refine ⟨by unfold inR; omega, ?_⟩
    exact ⟨i + 1, by omega, by omega, rfl, rfl⟩
  · constructor
    exact ⟨rfl, rfl⟩
end Go.Ag
namespace Go.Ag
open Go
set_option maxRecDepth 100000
theorem ready_ev : evFn tab.find (fun _ _ _ => none) 200 20 16 [] mem0 = some (.p (.bool true), mem0) := by kernel_rfl
theorem ready_pf : PFun Go.Proofs.Tryz.prog 16 [] (.bool true) := by
  refine (evFn_sound (by kernel_rfl) (BT.ok tab tab_ok) callOk_none 200 20 16 [] mem0 _ _ rfl ready_ev).mono ?_
  rintro r' S'' ⟨rfl, rfl⟩
  rfl
#print axioms ready_pf
end Go.Ag
/- HealthIsByItself: the law's loops. -/
namespace Go.Ag
open Go
set_option linter.unusedVariables false
set_option linter.unusedSimpArgs false
set_option maxRecDepth 100000

theorem eq43_pf0 : PFun PG 43 [.sl [], .sl []] (.bool true) := by
  refine walk_43 rfl (by simp) ?_
  constructor
  refine Cmp.yes rfl ?_
  constructor
  refine LoopF.of (fun i : Nat => ([(0, .p (.sl [])), (1, .p (.sl [])), (12, vi 0), (13, vi 0)], mem0)) (fun i => 0) (fun i => True) 0 trivial rfl rfl ?_
  intro i _
  constructor
  refine Cmp.no (by omega) ?_
  constructor
  exact ⟨rfl⟩
abbrev boxY (y : In) : Blk := .cells 152 [.p (.str y.key), .p (.int .i64 y.w)]
theorem box_st (y : In) (L : List (Nat × List RV)) (m : List Blk) (T : Toks) :
    opA (.st 2) [.ptr m.length 0, .p (.agg [.str y.key, .int .i64 y.w])] ⟨L, m ++ [.cells (2 * 76) [.p (.str []), .p (.int .i64 0)]], T⟩ = some (.top, ⟨L, m ++ [boxY y], T⟩) := by
  simp [opA, stA, RV.solid, RV.cells, RV.isCell, PV.isCell, over]
theorem flat_gz {α : Type} (c : α → List PV) : ∀ xs : List α, flat (xs.map (gz c)) = xs.flatMap c
  | [] => rfl
  | x :: xs => by rw [List.map_cons, flat_cons, flat_gz c xs, List.flatMap_cons]; rfl
abbrev e7 (X : List PV) (t0 : Nat) (qp : RV) (A : List PV) (n i : Int) : Env := [(4, .own X t0), (5, .la 5 0), (6, qp), (7, .p (.sl A)), (53, .own X t0), (54, vi n), (55, vi i)]
abbrev m7 (rise fall : Int) (m : List Blk) (T : Toks) : Mem := ⟨[(5, [vi rise, vi fall])], m, T⟩
/-- The turns of one instance are looked at. -/
theorem l70 (X : List PV) (t0 : Nat) (qp : RV) (hqp : qp = .nsl true ∨ ∃ l t, qp = .own l t) (A : List PV) (n i rise fall : Int) (m : List Blk) (T : Toks) (c zs : List Tn) (b : Nat) (hb : m[b]? = some (rowT zs)) (hz : zs.take c.length = c) (hl : c.length ≤ 1000)
    (hup : ∀ (i : Nat) n, c[i]? = some n → n.up = decide (i % 2 = 1)) {Q : Ex → Env → Mem → Prop}
    (hQ : Q (.exit 2) (e7 X t0 qp A n i ++ [(82, .rs b 0 c.length 3), (83, vi c.length), (84, vi c.length), (85, vb false)]) (m7 rise fall m T)) :
    LoopF PG (irF true PG ir_7_l0) (some [4, 5, 6, 7, 53, 54, 55, 82, 83, 84]) Q (e7 X t0 qp A n i ++ [(82, .rs b 0 c.length 3), (83, vi c.length), (84, vi 0)]) (m7 rise fall m T) := by
  rcases hqp with rfl | ⟨lp, tp, rfl⟩
  all_goals
    refine LoopF.of (fun j : Nat => (e7 X t0 _ A n i ++ [(82, .rs b 0 c.length 3), (83, vi c.length), (84, vi j)], m7 rise fall m T)) (fun j => c.length - j) (fun j => j ≤ c.length) 0 (by omega) rfl rfl ?_
    intro j hj
    constructor
    refine ⟨fun h1 => ?_, fun h1 => ?_⟩
    · obtain ⟨⟨nt, ni, nu⟩, hx⟩ : ∃ x, c[j]? = some x := ⟨_, List.getElem?_eq_getElem (by omega)⟩
      have hu := hup j _ hx
      simp only at hu
      have hx2 : zs[j]? = some ⟨nt, ni, nu⟩ := by
        rw [← hz, List.getElem?_take] at hx
        split at hx
        · exact hx
        · cases hx
      have htm : (j : Int).tmod 2 = ((j % 2 : Nat) : Int) := by
        rw [Int.tmod_eq_emod_of_nonneg (by omega)]
        omega
      constructor
      refine Opr.of (ia_z _ (by omega)) ?_
      constructor
      refine Opr.of (ld_z flTn (xs := zs) (x := ⟨nt, ni, nu⟩) hb hx2) ?_
      cases nu
      · have h2 : ¬ j % 2 = 1 := fun h => by rw [decide_eq_true h] at hu; cases hu
        constructor
        refine ⟨by decide, ?_⟩
        constructor
        refine Cmp.no (by omega) ?_
        constructor
        refine ⟨by unfold inR; omega, ?_⟩
        exact ⟨j + 1, by omega, by omega, rfl, rfl⟩
      · have h2 : j % 2 = 1 := by
          by_cases h : j % 2 = 1
          · exact h
          · rw [decide_eq_false h] at hu; cases hu
        constructor
        refine ⟨by decide, ?_⟩
        constructor
        refine Cmp.yes (by omega) ?_
        constructor
        refine ⟨by unfold inR; omega, ?_⟩
        exact ⟨j + 1, by omega, by omega, rfl, rfl⟩
    · obtain rfl : j = c.length := by omega
      exact hQ
theorem l70n (X : List PV) (t0 : Nat) (qp : RV) (hqp : qp = .nsl true ∨ ∃ l t, qp = .own l t) (A : List PV) (n i rise fall : Int) (m : List Blk) (T : Toks) (q : Bool) {Q : Ex → Env → Mem → Prop}
    (hQ : Q (.exit 2) (e7 X t0 qp A n i ++ [(82, .nsl q), (83, vi 0), (84, vi 0), (85, vb false)]) (m7 rise fall m T)) :
    LoopF PG (irF true PG ir_7_l0) (some [4, 5, 6, 7, 53, 54, 55, 82, 83, 84]) Q (e7 X t0 qp A n i ++ [(82, .nsl q), (83, vi 0), (84, vi 0)]) (m7 rise fall m T) := by
  rcases hqp with rfl | ⟨lp, tp, rfl⟩
  all_goals
    refine LoopF.of (fun j : Nat => (e7 X t0 _ A n i ++ [(82, .nsl q), (83, vi 0), (84, vi 0)], m7 rise fall m T)) (fun j => 0) (fun j => True) 0 trivial rfl rfl ?_
    intro j _
    constructor
    refine Cmp.no (by omega) ?_
    exact hQ
/-- Without probes. -/
theorem l71n (x : List In) (hx : InsOk x) (t0 : Nat) (rise fall : Int) (h1 : 1 ≤ rise ∧ rise ≤ 3) (h2 : 1 ≤ fall ∧ fall ≤ 3) (m : List Blk) (T : Toks) {Q : Ex → Env → Mem → Prop}
    (hQ : ∀ m T, Q (.exit 0) (e7 (ins x) t0 (.nsl true) [] (ins x).length x.length ++ [(56, vb false)]) (m7 rise fall m T)) :
    LoopF PG (irF true PG ir_7_l1) (some [4, 5, 6, 7, 53, 54, 55]) Q (e7 (ins x) t0 (.nsl true) [] (ins x).length 0) (m7 rise fall m T) := by
  have hlen : ((ins x).length : Int) = x.length := by simp
  have hx4 := hx.len
  refine LoopF.of (fun s : Nat × List Blk × Toks => (e7 (ins x) t0 (.nsl true) [] (ins x).length s.1, m7 rise fall s.2.1 s.2.2)) (fun s => x.length - s.1) (fun s => s.1 ≤ x.length) (0, m, T) (by simp) rfl rfl ?_
  rintro ⟨i, m, T⟩ hi
  simp only at hi
  constructor
  refine ⟨fun h3 => ?_, fun h3 => ?_⟩
  · have h3 : (i : Int) < (ins x).length := h3
    rw [hlen] at h3
    constructor
    refine Elt.map (by simp only; omega) (by simp only; omega) fun y hy => ⟨rfl, ?_⟩
    constructor
    refine Opr.of (box_st y _ m T) ?_
    constructor
    refine CallM.of rfl (cloneP_nil _ T) ?_
    rintro r S' ⟨rfl, rfl⟩
    constructor
    refine CallM.of rfl (dlp_nil 39 m.length _ T true) ?_
    rintro r S' ⟨rfl, rfl⟩
    constructor
    refine CallV.of (Turns_ok x hx rise fall h1 h2 [] (by simp) (by simp) rfl) ?_
    constructor
    refine CallM.of rfl (cloneT_nil _ T) ?_
    rintro r S' ⟨⟨q, rfl⟩, rfl⟩
    constructor
    refine CallM.of rfl (dlt_nil 42 m.length _ T q) ?_
    rintro r S' ⟨rfl, rfl⟩
    constructor
    refine Cmp.yes rfl ?_
    constructor
    refine CallV.of eq43_pf0 ?_
    constructor
    refine l70n (ins x) t0 (.nsl true) (.inl rfl) [] (ins x).length i rise fall _ T q ?_
    constructor
    refine ⟨by unfold inR; omega, ?_⟩
    exact ⟨(i + 1, _, T), by simp only; omega, by simp only; omega, rfl, rfl⟩
  · have h3 : ¬ (i : Int) < (ins x).length := h3
    rw [hlen] at h3
    obtain rfl : i = x.length := by omega
    exact hQ m T
theorem frozen_hand (b k : Nat) (zs mine : List Pb) (hz : zs.take mine.length = mine) : Hand b (.rs b 0 mine.length 3) (.sl (pbs mine)) (zs.flatMap cPb) := by
  refine .inr ⟨pbs mine, 3, by rw [List.length_map], rfl, by omega, fun x hx => ?_, fun k y hy => ?_⟩
  · obtain ⟨b, _, rfl⟩ := List.mem_map.1 hx
    rfl
  · rw [flat_gz] at hy
    have e : zs.flatMap cPb = mine.flatMap cPb ++ (zs.drop mine.length).flatMap cPb := by
      rw [← List.flatMap_append]
      congr 1
      conv => lhs; rw [← List.take_append_drop mine.length zs]
      rw [hz]
    rw [e, List.getElem?_append_left (List.getElem?_eq_some_iff.1 hy).1]
    exact hy
/-- With probes that are right. -/
theorem l71 (x : List In) (hx : InsOk x) (t0 : Nat) (rise fall : Int) (h1 : 1 ≤ rise ∧ rise ≤ 3) (h2 : 1 ≤ fall ∧ fall ≤ 3) (b0 : Pb) (bl : List Pb) (hp : ∀ b ∈ b0 :: bl, PbOk b) (hpl : (b0 :: bl).length ≤ 16) (tp : Nat) (hc : cpL (keysOf x) none (b0 :: bl) = 0)
    (A : List Tn) (hA : A = (runT (posI x) x.length rise fall (b0 :: bl)).1) (hAl : A.length ≤ 16) (m : List Blk) (T : Toks) {Q : Ex → Env → Mem → Prop}
    (hQ : ∀ m T, Q (.exit 0) (e7 (ins x) t0 (.own (pbs (b0 :: bl)) tp) (tns A) (ins x).length x.length ++ [(56, vb false)]) (m7 rise fall m T)) :
    LoopF PG (irF true PG ir_7_l1) (some [4, 5, 6, 7, 53, 54, 55]) Q (e7 (ins x) t0 (.own (pbs (b0 :: bl)) tp) (tns A) (ins x).length 0) (m7 rise fall m T) := by
  have hlen : ((ins x).length : Int) = x.length := by simp
  have hx4 := hx.len
  have hright := (cpL_iff (keysOf x) (b0 :: bl) none).1 hc
  generalize hpe : b0 :: bl = p at *
  refine LoopF.of (fun s : Nat × List Blk × Toks => (e7 (ins x) t0 (.own (pbs p) tp) (tns A) (ins x).length s.1, m7 rise fall s.2.1 s.2.2)) (fun s => x.length - s.1) (fun s => s.1 ≤ x.length) (0, m, T) (by simp) rfl rfl ?_
  rintro ⟨i, m, T⟩ hi
  simp only at hi
  constructor
  refine ⟨fun h3 => ?_, fun h3 => ?_⟩
  · have h3 : (i : Int) < (ins x).length := h3
    rw [hlen] at h3
    constructor
    refine Elt.map (by simp only; omega) (by simp only; omega) fun y hy => ⟨rfl, ?_⟩
    have hy : x[i]? = some y := hy
    have hyk : y.key ∈ keysOf x := List.mem_map_of_mem (List.mem_of_getElem? hy)
    have hdis : ∀ b ∈ p, b.inst ≠ y.key → posI x b.inst ≠ posI x y.key := fun b hb hne he => hne (posL_inj hx.keys (hright.1 b hb).2 hyk he)
    have hlt : posI x y.key < x.length := by simpa using (posL_ok hx.keys y.key hyk).1
    have hB := runT_mine (n := x.length) rise fall hlt hdis
    have hone := runT_one (n := x.length) rise fall hlt hdis
    rw [← hA] at hB hone
    generalize hmine : p.filter (ofP y.key) = mine at hB hone
    have hmok : ∀ b ∈ mine, PbOk b := fun b hb => hp b (by rw [← hmine] at hb; exact (List.mem_filter.1 hb).1)
    have hml : mine.length ≤ 16 := by rw [← hmine]; exact Nat.le_trans (List.length_filter_le _ _) hpl
    have hmc : cpL (keysOf x) none mine = 0 := by rw [← hmine]; exact cpL_filter hc _
    have hT := Turns_ok x hx rise fall h1 h2 mine hmok (by omega) hmc
    rw [hB] at hT
    constructor
    refine Opr.of (box_st y _ m T) ?_
    constructor
    refine CallM.of rfl (show SC PG 38 [.own (pbs p) tp] ⟨[], m ++ [boxY y], T⟩ _ from by rw [← hpe]; exact cloneP_sc b0 bl tp (by rw [hpe]; omega) _ T) ?_
    rintro r S' ⟨rfl, rfl⟩
    rw [hpe]
    have hb1 : ((m ++ [boxY y]) ++ [rowP p])[(m ++ [boxY y]).length]? = some (rowP p) := by simp
    have hY : ∀ ys, (((m ++ [boxY y]) ++ [rowP p]).set (m ++ [boxY y]).length (rowP ys))[m.length]? = some (boxY y) := fun ys => by
      rw [List.getElem?_set_ne (by simp)]
      simp
    constructor
    refine CallM.of rfl (dlp_sc 39 m.length (m ++ [boxY y]).length (fun s => !ofP y.key s) _ T p hb1 (by omega) (fun ys s hs => cl39 y.key _ m.length _ T (hY ys) s)) ?_
    rintro r S' ⟨k, zs, rfl, rfl, hk, hz⟩
    have hz2 : zs.take k = mine := by rw [hz, ← hmine]; congr 1; funext s; simp
    have hkm : k = mine.length := by rw [← hz2, List.length_take]; omega
    subst hkm
    have hb2 : (((m ++ [boxY y]) ++ [rowP p]).set (m ++ [boxY y]).length (rowP zs))[(m ++ [boxY y]).length]? = some (rowP zs) := by simp
    have hY2 := hY zs
    generalize ((m ++ [boxY y]) ++ [rowP p]).set (m ++ [boxY y]).length (rowP zs) = m2 at hb2 hY2 ⊢
    generalize (m ++ [boxY y]).length = bb at hb2 ⊢
    have hne : bb ≠ m.length := by rintro rfl; rw [hY2] at hb2; simp at hb2
    constructor
    refine CallM.of rfl (PFun.frozen hT rfl (b := bb) (ty := 159) (pcs := zs.flatMap cPb) (by rw [hb2, rowP, rowz, List.map_flatMap]) rfl ?_) ?_
    · intro k a hk
      match k with
      | 0 => cases hk; exact ⟨_, rfl, .inl rfl⟩
      | 1 => cases hk; exact ⟨_, rfl, .inl rfl⟩
      | 2 => cases hk; exact ⟨_, rfl, frozen_hand bb 0 zs mine hz2⟩
      | k + 3 => simp at hk
    rintro r S' ⟨rfl, rfl⟩
    have hY3 : (m2.set bb .dead)[m.length]? = some (boxY y) := by rw [List.getElem?_set_ne hne]; exact hY2
    generalize m2.set bb .dead = m3 at hY3 ⊢
    cases hAe : A with
    | nil =>
      constructor
      refine CallM.of rfl (cloneT_nil m3 _) ?_
      rintro r S' ⟨⟨q, rfl⟩, rfl⟩
      constructor
      refine CallM.of rfl (dlt_nil 42 m.length m3 _ q) ?_
      rintro r S' ⟨rfl, rfl⟩
      constructor
      refine Cmp.yes rfl ?_
      constructor
      refine CallV.of eq43_pf0 ?_
      constructor
      refine l70n (ins x) t0 (.own (pbs p) tp) (.inr ⟨_, _, rfl⟩) [] (ins x).length i rise fall m3 _ q ?_
      constructor
      refine ⟨by unfold inR; omega, ?_⟩
      exact ⟨(i + 1, m3, _), by simp only; omega, by simp only; omega, rfl, rfl⟩
    | cons a0 al =>
      rw [hAe] at hone hAl
      have hm3 : m.length < m3.length := (List.getElem?_eq_some_iff.1 hY3).1
      have hY4 : ∀ ys, ((m3 ++ [rowT (a0 :: al)]).set m3.length (rowT ys))[m.length]? = some (boxY y) := fun ys => by
        rw [List.getElem?_set_ne (by omega), List.getElem?_append_left hm3]
        exact hY3
      constructor
      refine CallM.of rfl (cloneT_sc a0 al (by omega) m3 _) ?_
      rintro r S' ⟨rfl, rfl⟩
      constructor
      refine CallM.of rfl (dlt_sc 42 m.length m3.length (fun s => !ofT y.key s) _ _ (a0 :: al) (by simp) (by omega) (fun ys s hs => cl42 y.key _ m.length _ _ (hY4 ys) s)) ?_
      rintro r S' ⟨k2, zs2, rfl, rfl, hk2, hz3⟩
      have hz4 : zs2.take k2 = (a0 :: al).filter (ofT y.key) := by rw [hz3]; congr 1; funext s; simp
      have hBl : ((a0 :: al).filter (ofT y.key)).length ≤ 16 := Nat.le_trans (List.length_filter_le _ _) hAl
      generalize (a0 :: al).filter (ofT y.key) = B at hone hz4 hBl ⊢
      have hk3 : k2 = B.length := by rw [← hz4, List.length_take]; omega
      subst hk3
      have hb4 : ((m3 ++ [rowT (a0 :: al)]).set m3.length (rowT zs2))[m3.length]? = some (rowT zs2) := by simp
      generalize (m3 ++ [rowT (a0 :: al)]).set m3.length (rowT zs2) = m4 at hb4 ⊢
      constructor
      refine Cmp.yes rfl ?_
      constructor
      refine CallM.of rfl (eq43_sc B zs2 m3.length m4 _ hb4 hz4 (by omega)) ?_
      rintro r S' ⟨rfl, rfl⟩
      constructor
      refine l70 (ins x) t0 (.own (pbs p) tp) (.inr ⟨_, _, rfl⟩) (tns (a0 :: al)) (ins x).length i rise fall m4 _ B zs2 m3.length hb4 hz4 (by omega) (fun j n hj => run1_alt rise fall mine j n (by rw [← hone]; exact hj)) ?_
      constructor
      refine ⟨by unfold inR; omega, ?_⟩
      exact ⟨(i + 1, m4, _), by simp only; omega, by simp only; omega, rfl, rfl⟩
  · have h3 : ¬ (i : Int) < (ins x).length := h3
    rw [hlen] at h3
    obtain rfl : i = x.length := by omega
    exact hQ m T
end Go.Ag
/- HealthIsByItself: the law's function returns true. -/
namespace Go.Ag
open Go
set_option linter.unusedVariables false
set_option linter.unusedSimpArgs false
set_option maxRecDepth 100000

theorem foldT_len (pos : List UInt8 → Nat) (rise fall : Int) : ∀ (p : List Pb) (st : List Tn × List Hs), (p.foldl (stepT pos rise fall) st).1.length ≤ st.1.length + p.length
  | [], st => by simp
  | b :: p, st => by
    have h := foldT_len pos rise fall p (stepT pos rise fall st b)
    have h2 : (stepT pos rise fall st b).1.length ≤ st.1.length + 1 := by
      simp only [stepT]
      split
      · simp
      · omega
    rw [List.foldl_cons, List.length_cons]
    omega
theorem law7 (l : List Int) (hl : l.length ≤ 140737488355328) : PFun PG 7 [ints l] (.bool true) := by
  refine walkO_7 rfl (by simp) ?_
  constructor
  refine CallM.of rfl (ins_sc l 0 [] [] hl (by omega) (by omega)) ?_
  rintro r S' ⟨x, a1, T1, hx, ha1, _, hrx, rfl⟩
  rcases hrx with ⟨rfl, he⟩ | ⟨t0, rfl, _⟩
  · exact absurd (List.map_eq_nil_iff.1 he) hx.ne
  constructor
  refine CallM.of rfl (range_sc l a1 1 3 [] T1 hl (by omega) (by omega) (by omega) (by omega) (by omega)) ?_
  rintro r S' ⟨rise, h1, rfl, rfl⟩
  constructor
  refine CallM.of rfl (range_sc l (a1 + 1) 1 3 [] T1 hl (by omega) (by omega) (by omega) (by omega) (by omega)) ?_
  rintro r S' ⟨fall, h2, rfl, rfl⟩
  constructor
  refine CallM.of rfl (prb_sc l (a1 + 1 + 1) [] T1 x t0 hx hl (by omega) (by omega)) ?_
  rintro r S' ⟨p, a2, T2, hp, ha2, _, hrp, rfl⟩
  rcases hrp with ⟨rfl, hep⟩ | ⟨tp, rfl, hrp⟩
  · obtain rfl : p = [] := List.map_eq_nil_iff.1 hep
    constructor
    refine CallV.of (Turns_ok x hx rise fall h1 h2 [] (by simp) (by simp) rfl) ?_
    constructor
    refine CallV.of (cp_pf x hx [] (by simp) (by simp)) ?_
    constructor
    refine Cmp.yes rfl ?_
    constructor
    refine Cmp.yes rfl ?_
    constructor
    refine l71n x hx t0 rise fall h1 h2 _ T2 fun m T => ?_
    constructor
    refine CallV.of ready_pf ?_
    constructor
    exact ⟨rfl⟩
  · by_cases hc : cpL (keysOf x) none p = 0
    · have hpne : p ≠ [] := by
        rintro rfl
        exact absurd rfl hrp.2.2
      obtain ⟨b0, bl, rfl⟩ : ∃ b0 bl, p = b0 :: bl := by cases p with | nil => exact absurd rfl hpne | cons b0 bl => exact ⟨b0, bl, rfl⟩
      have hAl := foldT_len (posI x) rise fall (b0 :: bl) ([], List.replicate x.length (false, 0))
      constructor
      refine CallV.of (Turns_ok x hx rise fall h1 h2 (b0 :: bl) hp.1 (by have := hp.2; omega) hc) ?_
      constructor
      refine CallV.of (cp_pf x hx (b0 :: bl) hp.1 (by have := hp.2; omega)) ?_
      constructor
      refine Cmp.yes hc ?_
      constructor
      refine Cmp.yes rfl ?_
      constructor
      refine l71 x hx t0 rise fall h1 h2 b0 bl hp.1 hp.2 tp hc _ rfl (by have := hp.2; simp only [List.length_nil] at hAl; exact Nat.le_trans hAl (by omega)) _ T2 fun m T => ?_
      constructor
      refine CallV.of ready_pf ?_
      constructor
      exact ⟨rfl⟩
    · constructor
      refine CallV.of (Turns_bad x hx rise fall h1 h2 p hp.1 (by have := hp.2; omega) hc) ?_
      constructor
      refine CallV.of (cp_pf x hx p hp.1 (by have := hp.2; omega)) ?_
      constructor
      refine Cmp.no hc ?_
      constructor
      refine Cmp.no hc ?_
      constructor
      refine Cmp.yes rfl ?_
      constructor
      refine CallV.of ready_pf ?_
      constructor
      exact ⟨rfl⟩
end Go.Ag
/- An abstract machine for Go functions: a law over a list of whole numbers, called in any memory. -/
namespace Go.Ag
open Go Go.ChangeShapes Go.WideShapes Go.RowKit
set_option linter.unusedVariables false
set_option linter.unusedSimpArgs false

/-- A row of whole numbers, as a card reads it. -/
def IsRow (k : IntKind) (w : World) (a : Option Addr) (len cap : Nat) (zs : List Int) : Prop :=
  (a = none ∧ len = 0 ∧ cap = 0 ∧ zs = []) ∨
  ∃ x, a = some x ∧ len ≤ cap ∧ cap ≤ maxLen ∧ zs.length = cap ∧ (∀ i, i < zs.length → w.cell? (x.add i) = some (.int k (zs.getD i 0))) ∧ ∀ n ∈ zs, (Lit.int k n).wf = true

theorem rep_ints {F : Cells} (hF : ∀ β o, ¬ F β o) {w : World} {a : Option Addr} {len cap : Nat} {zs : List Int} (h : IsRow .i64 w a len cap zs) :
    Rep F w (.sl ((zs.take len).map (PV.int .i64))) (.slice a len cap) := by
  have flatI : ∀ l : List Int, flat (l.map (PV.int .i64)) = l.map (PV.int .i64) := by
    intro l
    induction l with
    | nil => rfl
    | cons x l ih => rw [List.map_cons, flat_cons, ih]; rfl
  rcases h with ⟨rfl, rfl, rfl, rfl⟩ | ⟨x, rfl, h1, h2, h3, h4, _⟩
  · exact .sl [] none 0 1 (fun _ => undef) (by simp) (by simp) (by simp) (.inl rfl) (by simp [flat])
  · have hlen : ((zs.take len).map (PV.int .i64)).length = len := by simp; omega
    have key : Rep F w (.sl ((zs.take len).map (PV.int .i64))) (.slice (some x) ((zs.take len).map (PV.int .i64)).length cap) := by
      refine .sl _ _ cap 1 (fun k => .int .i64 (zs.getD k 0)) (by simp) (by rw [hlen]; exact h1) (fun y hy => ?_) ?_ (fun k y hy => ?_)
      · obtain ⟨n, _, rfl⟩ := List.mem_map.1 hy
        rfl
      · by_cases h0 : len = 0
        · subst h0; left; simp
        · right
          have hx0 := h4 0 (by omega)
          have hsp : x.spot = none := by
            unfold World.cell? at hx0
            have e : x.add 0 = x := by simp [Addr.add]
            rw [e] at hx0
            cases hs : x.spot with
            | none => rfl
            | some s =>
              rw [hs] at hx0
              split at hx0 <;> simp at hx0
          obtain ⟨b, o, s⟩ := x
          simp only at hsp
          subst hsp
          refine ⟨b, o, rfl, fun k hk => ⟨?_, hF _ _⟩⟩
          rw [flatI] at hk
          have := h4 k (by simp at hk; omega)
          rwa [addr_add] at this
      · rw [flatI] at hy
        rw [List.getElem?_map, Option.map_eq_some_iff] at hy
        obtain ⟨n, hn, rfl⟩ := hy
        rw [List.getElem?_take] at hn
        split at hn
        · have : zs.getD k 0 = n := by simp [List.getD, hn]
          rw [this]
          exact .int _ _
        · cases hn
    rwa [hlen] at key

/-- A law that is true of all lists returns true, whatever the memory, and leaves it as it was. -/
theorem PFun.row {P : Program} {f : FuncId} (h : ∀ l : List Int, l.length ≤ 140737488355328 → PFun P f [.sl (l.map (PV.int .i64))] (.bool true))
    {a : Option Addr} {len cap : Nat} {zs : List Int} {W : World} (hr : IsRow .i64 W a len cap zs) (hs : len * 8 ≤ 140737488351232) :
    Calls P f #[.slice a len cap] W fun e W' => e = .returned (.bool true) ∧ Below W.heap.size W W' := by
  have hF : ∀ β o, ¬ FX (fun _ _ => False) (fun _ => none) ([] : List (Nat × Nat × Nat)) β o := by
    rintro β o (h | h)
    · exact h
    · exact h
  have hM : MRel (fun _ _ => False) (fun _ => none) mem0 W :=
    { inj := fun β β' o h => by cases h
      bnd := fun β o h => by cases h
      xb := fun β o h => h.elim
      memlt := fun β o h => by cases h
      toklt := fun β o h => by cases h
      locin := fun β o h => by cases h
      deadlt := fun b h => by simp [Dead, mem0] at h
      blk := fun b k h => by simp [mem0] at h
      loc := fun d cs h => by simp [mem0, locGet_nil] at h
      tok := fun t e z h => by simp [mem0] at h }
  have hl : (zs.take len).length ≤ 140737488355328 := by
    have : (zs.take len).length ≤ len := List.length_take_le _ _
    omega
  have hc : ACall P f [.p (.sl ((zs.take len).map (PV.int .i64)))] mem0 fun r S => r = .p (.bool true) := PFun.acall (pvs := [.sl ((zs.take len).map (PV.int .i64))]) (h _ hl) rfl rfl
  refine (hc.2 (fun _ _ => False) (fun _ => none) W #[.slice a len cap] hM rfl ?_).mono ?_
  · intro k r v h1 h2
    match k with
    | 0 =>
      simp only [List.getElem?_cons_zero, Option.some.injEq, List.getElem?_toArray] at h1 h2
      subst h1
      subst h2
      exact .p (rep_ints hF hr)
    | k + 1 => simp at h1
  · rintro e W' ⟨v, r, S', ow', rfl, rfl, hM', hv, tr, _⟩
    cases hv with | p hv => cases hv with | bool =>
    exact ⟨rfl, tr.os, tr.tape, tr.output, tr.size, fun β hb => (tr.fr β hb rfl).2⟩

/-- A row's slice of whole numbers is no longer than its weight allows. -/
theorem sized {H : Type} {enc : TypeId × Value → H} {P : Program} {W : World} {base : Nat} {spare : Nat → Bool} {held : Bool} {t e : TypeId} {k : IntKind} {a : Option Addr} {len cap : Nat} {d : DataW H} {ps : List MemPlace} {ts : List TypeId} {ds : List (DataW H)} {j : Nat}
    (hsz : (DataW.weightsEach P ts ds).all (· ≤ reachBytes) = true) (ht : ts[j]? = some t) (hd : ds[j]? = some d) (hu : P.underlying t = some (.slice e)) (he : P.underlying e = some (.int k)) (hc : P.cellsOf e = 1) {B : Nat} (hB : P.bytesOf e = B)
    (h : DataW.Trod enc P W base spare held t (.slice a len cap) d ps) : len * B ≤ 140737488351232 := by
  obtain ⟨fuel, hf⟩ := h
  rcases open_ints hu he hc hf with ⟨hcs, _⟩ | ⟨x, l, c, zs, hcs, _, hl, _, hz, hx, _, _⟩
  · simp [Value.cells] at hcs
    obtain ⟨rfl, rfl, rfl⟩ := hcs
    simp
  · simp [Value.cells] at hcs
    obtain ⟨rfl, rfl, rfl⟩ := hcs
    obtain ⟨hx, _⟩ := Prod.mk.inj hx
    subst hx
    have z := sized_slice hsz ht hd hu
    rw [hB] at z
    have hl2 : len ≤ zs.length := by
      rw [hz]
      split
      · exact hl
      · exact Nat.le_refl _
    have h1 : (lits (H := H) k (zs.take len)).length + (lits (H := H) k (zs.drop len)).length = zs.length := by
      simp [lits]
      omega
    rw [h1] at z
    exact Nat.le_trans (Nat.mul_le_mul_right _ hl2) z
end Go.Ag
/- 'gatewarden/gatekeep2.HealthIsByItself': for every list of whole numbers the law returns true, and the list reads behind the call as it read before; condition: the listed variables of Go's library hold what the program's text lays, which the card ties. -/
namespace Go.Proofs.YtkfnogdkfedaaaaGreatDoor.healthIsByItself
open Go.ChangeShapes Go.WideShapes Go.ChangeAt Go.RowKit
set_option linter.unusedVariables false
theorem own : ownKnob Tryz.prog.godebug = none := by kernel_rfl
theorem laidOut : laidOutB Tryz.prog = true := by kernel_rfl
set_option maxRecDepth 100000 in
theorem lifted (os : Os) (started : os.Started) (H : Type) (enc : TypeId × Value → H) :
    ReturnsInHanded {} Tryz.checked os 7 .any (fun w args => (Rows.healthIsByItselfSpec.pre enc Tryz.prog Tryz.f7 Rows.healthIsByItselfRow.domain false w args ∧ laidMetH Tryz.prog Rows.healthIsByItselfRow.laid w) ∧ sizedMet enc Tryz.prog Tryz.f7 (OpenSpec.ofChange Rows.healthIsByItselfSpec) false w args)
      (Rows.healthIsByItselfSpec.post enc Tryz.prog Tryz.f7 false true false false) := by
  refine returnsInHanded_of_change_and (C := Tryz.checked) (X := fun w _ => laidMetH Tryz.prog Rows.healthIsByItselfRow.laid w) (fun _ _ _ hh h => h.of_heap hh) own started (by kernel_rfl) Tryz.func7
    (ChangeSpec.witness_shaped (enc := enc) (C := Tryz.checked) (os := os) (X := fun w _ => laidMetH Tryz.prog Rows.healthIsByItselfRow.laid w) false (World.laidAll Tryz.prog os Rows.healthIsByItselfRow.laid) #[.slice none 0 0] 8 (World.laidAll_os _ _ _)
      (World.shaped_of_ZipB (by kernel_rfl) (by kernel_rfl)) (by kernel_rfl) (by kernel_rfl) (by kernel_rfl)
      (by rw [MakeChecks.laidMetH_plain _ _ _ (by kernel_rfl)]; exact laidMet_laidAll _ (by kernel_rfl) (by kernel_rfl))) ?_
  intro W base args ds gs before hval0 hW hcnd hsz0 hL _
  have hsz : (DataW.weightsEach Tryz.prog (Tryz.f7.params.toList ++ Rows.healthIsByItselfSpec.plain.varTypes Tryz.prog) (ds ++ gs)).all (· ≤ reachBytes) = true := hsz0
  have hval : ∀ (j : Nat) t v, Tryz.f7.params[j]? = some t → args[j]? = some v → Value.okWide Tryz.prog W .any base t v := hval0
  have hW' := hW
  obtain ⟨p, q, hA0, hV, rfl, hfz, hnd⟩ := hW
  have hA : DataW.TrodAll enc Tryz.prog W 0 (fun _ => true) true Tryz.f7.params.toList args.toList ds p := hA0
  rw [Tryz.params7] at hA hval hsz
  obtain ⟨v0, vs0, d0, ds0, p0, q0, hargs, rfl, rfl, h0, r0⟩ := trodAll_cons hA
  obtain ⟨rfl, rfl, rfl⟩ := trodAll_nil r0
  obtain rfl : args = #[v0] := by cases args; simp_all
  obtain ⟨rfl, rfl⟩ := trodVars_none hV
  obtain ⟨a0, len0, cap0, rfl⟩ := okWide_slice Tryz.underlying22 (hval 0 22 v0 rfl rfl)
  have k0 := h0
  have lt0 : ∀ x ∈ p0, x.block < W.heap.size := by obtain ⟨m, hm⟩ := k0; exact DataW.trod_lt m _ _ _ hm
  obtain ⟨z0, w0⟩ : ∃ zs, Go.Ag.IsRow .i64 W a0 len0 cap0 zs := by
    obtain ⟨fuel, hf⟩ := h0
    rcases open_ints Tryz.underlying22 Tryz.underlying3 (by kernel_rfl) hf with ⟨hcs, _⟩ | ⟨x, l, c, zs, hcs, _, hl, hm, hz, _, hcell, hwz⟩
    · simp [Value.cells] at hcs
      obtain ⟨rfl, rfl, rfl⟩ := hcs
      exact ⟨[], .inl ⟨rfl, rfl, rfl, rfl⟩⟩
    · simp [Value.cells] at hcs
      obtain ⟨rfl, rfl, rfl⟩ := hcs
      exact ⟨zs, .inr ⟨_, rfl, hl, hm, by simpa using hz, hcell, hwz⟩⟩
  have y0 : len0 * 8 ≤ 140737488351232 := Go.Ag.sized hsz (j := 0) (t := 22) rfl rfl Tryz.underlying22 Tryz.underlying3 (by kernel_rfl) (by kernel_rfl) h0
  clear hA0 hval0 hsz0 hsz
  refine (Go.Ag.PFun.row Go.Ag.law7 w0 y0).mono fun e W' ⟨he, bel⟩ => ?_
  subst he
  exact ⟨_, rfl, _, _, _, [], _, [], hW', trodAll_mk1 (shut_bool Tryz.underlying4 _), (trodAll_cons_mk (Below.trod laidOut (by kernel_rfl) (of_decide_eq_true (by kernel_rfl)) k0 bel lt0) trodAll_mk0), rfl, bel.frame _, fun h => by cases h⟩
set_option maxHeartbeats 0 in
theorem joined : joinedFacts Tryz.pinned.checked.prog 7 Tryz.f7 Rows.healthIsByItselfSpec Rows.healthIsByItselfRow = true := by
  simp only [joinedFacts, Bool.and_eq_true]
  refine ⟨⟨⟨⟨⟨⟨⟨⟨⟨⟨⟨⟨⟨⟨⟨⟨⟨⟨⟨⟨⟨⟨⟨⟨⟨⟨⟨⟨⟨⟨⟨?_, ?_⟩, ?_⟩, ?_⟩, ?_⟩, ?_⟩, ?_⟩, ?_⟩, ?_⟩, ?_⟩, ?_⟩, ?_⟩, ?_⟩, ?_⟩, ?_⟩, ?_⟩, ?_⟩, ?_⟩, ?_⟩, ?_⟩, ?_⟩, ?_⟩, ?_⟩, ?_⟩, ?_⟩, ?_⟩, ?_⟩, ?_⟩, ?_⟩, ?_⟩, ?_⟩, ?_⟩ <;> as_aux_lemma => kernel_rfl
theorem said : Rows.HealthIsByItselfSaid :=
  OpenClaim.holds_of_wide 7 Tryz.f7 rfl rfl rfl rfl rfl rfl rfl ⟨rfl, rfl, rfl, rfl, rfl⟩ rfl rfl rfl rfl rfl (by kernel_rfl) Tryz.func7 joined
    (of_decide_eq_true (by kernel_rfl)) (by unfold Func.isWrapper; first | (rw [if_pos (by decide +kernel)]; kernel_rfl) | (rw [if_neg (by decide +kernel)]; exact ⟨rfl, rfl⟩))
    (fun os started H enc _ => lifted os started H enc)
theorem plain (f : FuncId) (fn : Func) (hf : Tryz.pinned.checked.prog.funcNamed Tryz.f7.name = some f) (hfn : Tryz.pinned.checked.prog.funcs[f]? = some fn) :
    true = Tryz.pinned.checked.prog.looks [] ∧ ∀ (j : Nat) t, fn.params[j]? = some t → Tryz.pinned.checked.prog.wantsStandIn t = false := by
  obtain rfl : f = 7 := Option.some.inj ((show Tryz.prog.funcNamed Tryz.f7.name = some 7 by kernel_rfl).symm.trans hf) |>.symm
  obtain rfl : fn = Tryz.f7 := (Option.some.inj (Tryz.func7.symm.trans hfn)).symm
  refine ⟨by kernel_rfl, fun j t ht => ?_⟩
  rw [Tryz.params7] at ht
  obtain rfl : t = 22 := by simpa using Array.mem_of_getElem? ht
  exact (show Tryz.prog.wantsStandIn 22 = false by kernel_rfl)
theorem card : Rows.HealthIsByItselfCardSaid :=
  Claim7.holds_tied_plain_at .later [] _ _ _ _ said (fun _ h => by cases h) (by kernel_rfl) (fun _ h => by cases h) healthIsByItself_row_tie rfl ⟨rfl, rfl⟩ (by kernel_rfl) rfl plain (by kernel_rfl)
#print axioms card
end Go.Proofs.YtkfnogdkfedaaaaGreatDoor.healthIsByItself
namespace Go.Proofs.YtkfnogdkfedaaaaGreatDoor
theorem healthIsByItself_card : Rows.HealthIsByItselfCardSaid := healthIsByItself.card
end Go.Proofs.YtkfnogdkfedaaaaGreatDoor
