/- Several texts of one proof in one file, one after another, each with its own head: the machine's side of a law and the plain side; conditions: those of each theorem. -/
import Derived.Test.YtkfnogdkfedaaaaGreatDoorMScopesAgree2
import Derived.Sort.Grow
import Derived.Sort.EncStr
import Derived.Ground.Names2Prog
import Derived.Ground.SlgnProg
import Derived.Shelf.LaysM
import Derived.Shelf.Slices.Cells
import Derived.Shelf.Slices.Clone
import Derived.Shelf.Slices.CompactI
import Derived.Shelf.Slices.CompactS
import Derived.Shelf.Slices.SearchI
import Derived.Shelf.SlicesE.Clone
import Derived.Shelf.Small.Bits
import Derived.Shelf.Small.Strs
import Derived.Shelf.Small.Utf8
import Derived.Shelf.Sort.Plain
import Derived.Shelf.Strconv.Itoa0
import Derived.Shelf.Strconv.Itoa1
import Derived.Shelf.Strconv.Itoa2
import Derived.Shelf.Strconv.Itoa3
import Derived.Shelf.Strings.AsciiSet
import Derived.Shelf.Strings.Builder1
import Derived.Shelf.Strings.Builder2
import Derived.Shelf.Strings.Count
import Derived.Shelf.Strings.Cut
import Derived.Shelf.Strings.Explode
import Derived.Shelf.Strings.IndexAny
import Derived.Shelf.Strings.IndexAnyAll
import Derived.Shelf.Strings.RuneCount
import Derived.Shelf.Strings.Runes
import Derived.Shelf.Strings.Search1
import Derived.Shelf.Strings.Search2
import Derived.Shelf.Strings.Search3
import Derived.Shelf.Strings.Shaped
import Derived.Shelf.Strings.Split
import Derived.Shelf.Strings.SplitShaped
import Derived.Shelf.Unicode.CaseConvert
import Derived.Shelf.Unicode.CaseLaid
import Derived.Shelf.Unicode.CaseLookup
import Derived.Shelf.Unicode.CaseTo
import Derived.Shelf.Unicode.Decode
import Derived.Shelf.Unicode.DecodeAny
import Derived.Shelf.Unicode.DecodeLast
import Derived.Shelf.Unicode.DecodeSlow
import Derived.Shelf.Unicode.Latin
import Derived.Shelf.Utf8.RuneCount
import Derived.Test.YtkfnogdkfedaaaaGreatDoorProg
import Derived.Below
import Derived.SizedLaws
import Derived.ChangeSlices
import Derived.Test.YtkfnogdkfedaaaaGreatDoorCards
import Derived.Test.YtkfnogdkfedaaaaGreatDoorTie
import Derived.WalkKit
import Derived.ProofKit
import Derived.OpenShut
import Derived.ShutString
import Derived.ChangeOld
import Derived.LaidMore
import Derived.Lay
import Derived.SevenTiedAt
import Derived.Stop.Joined
set_option linter.unusedVariables false
set_option linter.unusedSimpArgs false
/- PricesGrow: the stream's choices; small functions. -/
namespace Go.Ag
open Go
set_option linter.unusedVariables false
set_option linter.unusedSimpArgs false
set_option maxRecDepth 100000

theorem pf_evP {f : FuncId} {args : List PV} {rv : RV} {r : PV} (h : evFn tabP.find (fun _ _ _ => none) 200 20 f (args.map .p) mem0 = some (rv, mem0)) (hr : rv.still mem0 = some r) : PFun PG f args r := by
  refine (evFn_sound mix (BT.ok tabP tabP_ok) callOk_none 200 20 f _ mem0 _ _ rfl h).mono ?_
  rintro r' S'' ⟨rfl, rfl⟩
  exact hr
abbrev strs (xs : List (List UInt8)) : List PV := xs.map PV.str
def nine : List (List UInt8) := [[97], [97, 58, 42], [97, 58, 98], [97, 58, 98, 58, 42], [97, 58, 98, 58, 99], [98], [98, 58, 42], [98, 58, 99], [42]]
def kMaps : List UInt8 := [109, 97, 112, 115]
def kShop : List UInt8 := [115, 104, 111, 112]
def kOrders : List UInt8 := [111, 114, 100, 101, 114, 115]
theorem isScope_pf (s : List UInt8) (h : s ∈ kOrders :: nine) : PFun PG 150 [.str s] (.bool true) := by
  simp only [nine, kOrders, List.mem_cons, List.not_mem_nil, or_false] at h
  rcases h with rfl | rfl | rfl | rfl | rfl | rfl | rfl | rfl | rfl | rfl
  all_goals exact pf_evP (rv := .p (.bool true)) (by kernel_rfl) rfl

theorem some_sc (l : List Int) (a : Int) (rest : List Blk) (T : List (Nat × Nat × Nat)) (xs : List (List UInt8)) (hl : l.length ≤ 140737488355328) (h0 : 0 ≤ a) (h1 : a < 1000000000) (hx : 1 ≤ xs.length) (hx2 : xs.length ≤ 1000) :
    SC PG 18 [.ptr 0 0, .p (.sl (strs xs))] (stm l a rest T) fun r S' => ∃ v ∈ xs, r = .p (.str v) ∧ S' = stm l (a + 1) rest T := by
  have hlen : ((strs xs).length : Int) = xs.length := by simp
  refine walk_18 rfl (by simp) ?_
  constructor
  refine CallM.of rfl (next_sc l a _ rest T hl h0 h1 (by omega) (by omega)) ?_
  rintro r S' ⟨v, hv, rfl, rfl⟩
  constructor
  refine Elt.map hv.1 (by omega) fun x hx => ⟨rfl, ?_⟩
  constructor
  exact ⟨_, List.mem_of_getElem? hx, rfl, rfl⟩
theorem pick_sc (l : List Int) (a : Int) (rest : List Blk) (T : List (Nat × Nat × Nat)) (xs : List Int) (hl : l.length ≤ 140737488355328) (h0 : 0 ≤ a) (h1 : a < 1000000000) (hx : 1 ≤ xs.length) (hx2 : xs.length ≤ 1000) :
    SC PG 51 [.ptr 0 0, .p (ints xs)] (stm l a rest T) fun r S' => ∃ v ∈ xs, r = vi v ∧ S' = stm l (a + 1) rest T := by
  have hlen : ((xs.map (PV.int .i64)).length : Int) = xs.length := by simp
  refine walk_51 rfl (by simp) ?_
  constructor
  refine CallM.of rfl (next_sc l a _ rest T hl h0 h1 (by omega) (by omega)) ?_
  rintro r S' ⟨v, hv, rfl, rfl⟩
  constructor
  refine Elt.map hv.1 (by omega) fun x hx => ⟨rfl, ?_⟩
  constructor
  exact ⟨_, List.mem_of_getElem? hx, rfl, rfl⟩
theorem flip_sc (l : List Int) (a n : Int) (rest : List Blk) (T : List (Nat × Nat × Nat)) (hl : l.length ≤ 140737488355328) (h0 : 0 ≤ a) (h1 : a < 1000000000) (hn : 1 ≤ n) (hn2 : n ≤ 1000) :
    SC PG 12 [.ptr 0 0, vi n] (stm l a rest T) fun r S' => (r = vb true ∨ r = vb false) ∧ S' = stm l (a + 1) rest T := by
  refine walk_12 rfl (by simp) ?_
  constructor
  refine CallM.of rfl (next_sc l a _ rest T hl h0 h1 hn (by omega)) ?_
  rintro r S' ⟨v, hv, rfl, rfl⟩
  constructor
  refine ⟨fun h => ?_, fun h => ?_⟩
  · constructor; exact ⟨.inl rfl, rfl⟩
  · constructor; exact ⟨.inr rfl, rfl⟩

theorem stm_eq {l : List Int} {a a' : Int} {rest : List Blk} {T : Toks} (h : a = a') : stm l a rest T = stm l a' rest T := by rw [h]
theorem rsc_sc (l : List Int) (a : Int) (rest : List Blk) (T : Toks) (hl : l.length ≤ 140737488355328) (h0 : 0 ≤ a) (h1 : a < 900000000) :
    SC PG 28 [.ptr 0 0] (stm l a rest T) fun r S' => ∃ sc a' T', ((∀ s ∈ sc, s ∈ nine) ∧ sc.length ≤ 4) ∧ (a ≤ a' ∧ a' ≤ a + 5) ∧ Ext T T' ∧ Row T 1 9 (strs sc) T' r ∧ S' = stm l a' rest T' := by
  refine walk_28 rfl (by simp) ?_
  constructor
  refine CallM.of rfl (range_sc l a 0 4 rest T hl h0 (by omega) (by omega) (by omega) (by omega)) ?_
  rintro r S' ⟨n, hn, rfl, rfl⟩
  constructor
  refine LoopF.of (fun s : List (List UInt8) × RV × Toks => ([(0, .ptr 0 0), (3, s.2.1), (5, vi n), (6, vi s.1.length)], stm l (a + 1 + s.1.length) rest s.2.2)) (fun s => 4 - s.1.length) (fun s => (∀ x ∈ s.1, x ∈ nine) ∧ (s.1.length : Int) ≤ n ∧ Row T 1 9 (strs s.1) s.2.2 s.2.1 ∧ Ext T s.2.2) ([], .nsl true, T) ⟨by simp, by simp; omega, Row.nil, Ext.refl T⟩ rfl (stm_eq (by simp)) ?_
  rintro ⟨s, q, T1⟩ ⟨hs, hsn, hr, hx⟩
  simp only at hs hsn hr hx
  have hr2 := hr
  rcases hr with ⟨rfl, he⟩ | ⟨t, rfl, ht⟩
  all_goals
    constructor
    refine ⟨fun h2 => ?_, fun h2 => ?_⟩
    · have h2 : (s.length : Int) < n := h2
      constructor
      refine CallM.of rfl (some_sc l (a + 1 + s.length) rest _ nine hl (by omega) (by omega) (by decide) (by decide)) ?_
      rintro r S' ⟨v, hv, rfl, rfl⟩
      obtain ⟨t', T', k1, k2, k3⟩ := hr2.app (y := .str v) (b := 16) hx rfl (by simp [lim]; omega)
      constructor
      refine Opr.of (k1 _ rfl) ?_
      constructor
      refine ⟨by unfold inR; omega, ?_⟩
      refine ⟨(s ++ [v], .own (strs s ++ [.str v]) t', T'), ⟨?_, ?_, ?_, k3⟩, ?_, ?_, ?_⟩
      · intro x hx; simp at hx; rcases hx with h | rfl
        · exact hs x h
        · exact hv
      · simp; omega
      · simpa using k2
      · simp only [List.length_append, List.length_cons, List.length_nil]; omega
      · simp; rfl
      · exact stm_eq (by simp; omega)
    · constructor
      exact ⟨s, a + 1 + s.length, T1, ⟨hs, by omega⟩, ⟨by omega, by omega⟩, hx, hr2, rfl⟩

/-- A plan. -/
structure Pl where
  key : List UInt8
  prod : List UInt8
  base : Int
  free : Int
  tiers : List (Int × Int)
  limit : Int
  trial : Int
  asked : Bool
def tpv (t : Int × Int) : PV := .agg [.int .i64 t.1, .int .i64 t.2]
def Pl.cs (p : Pl) : List PV := [.str p.key, .str p.prod, .int .i64 p.base, .int .i64 p.free, .sl (p.tiers.map tpv), .int .i64 p.limit, .int .i64 p.trial, .bool p.asked]
def Pl.pv (p : Pl) : PV := .agg p.cs
/-- Tiers rise. -/
def Rise : Int → List (Int × Int) → Prop
  | _, [] => True
  | b, t :: r => b < t.1 ∧ t.1 ≤ 1000 ∧ 0 ≤ t.2 ∧ t.2 ≤ 1500 ∧ Rise t.1 r
structure Pl.ok (p : Pl) : Prop where
  prod : p.prod = kShop ∨ p.prod = kMaps
  base : 0 ≤ p.base ∧ p.base ≤ 3000
  free : 0 ≤ p.free ∧ p.free ≤ 100
  limit : -1 ≤ p.limit ∧ p.limit ≤ 1000
  trial : 0 ≤ p.trial ∧ p.trial ≤ 2
  few : p.tiers.length ≤ 3
  rise : Rise 0 p.tiers
  first : ∀ t ∈ p.tiers.head?, t.1 = 1
def prods (sc : List (List UInt8)) : PV := .sl [.agg [.str kMaps, .sl (strs sc)], .agg [.str kShop, .sl [.str kOrders]]]
def cat (sc : List (List UInt8)) (ps : List Pl) : PV := .agg [prods sc, .sl (ps.map Pl.pv)]
def four : List (List UInt8) := [[98, 105, 103], [102, 114, 101, 101], [109, 105, 100], [115, 109, 97, 108, 108]]
structure CatOk (sc : List (List UInt8)) (ps : List Pl) : Prop where
  hsc : (∀ s ∈ sc, s ∈ nine) ∧ sc.length ≤ 4
  hps : ∀ p ∈ ps, p.ok
  hkeys : (ps.map Pl.key).Sublist four
theorem key_pf (s : List UInt8) (h : s ∈ kMaps :: kShop :: four) : PFun PG 155 [.str s] (.bool true) := by
  simp only [four, kMaps, kShop, List.mem_cons, List.not_mem_nil, or_false] at h
  rcases h with rfl | rfl | rfl | rfl | rfl | rfl
  all_goals exact pf_evP (rv := .p (.bool true)) (by kernel_rfl) rfl
theorem scopes_pf (sc : List (List UInt8)) (h : ∀ s ∈ sc, s ∈ kOrders :: nine) (hl : sc.length ≤ 50) : PFun PG 89 [.sl (strs sc)] (.int .i64 0) := by
  have hlen : ((strs sc).length : Int) = sc.length := by simp
  refine walk_89 rfl (by simp) ?_
  constructor
  refine Cmp.no (by omega) ?_
  constructor
  refine LoopF.of (fun i : Nat => ([(8, .p (.sl (strs sc))), (9, vi (strs sc).length), (10, vi i)], mem0)) (fun i => sc.length - i) (fun i => i ≤ sc.length) 0 (Nat.zero_le _) rfl rfl ?_
  intro i hi
  constructor
  refine ⟨fun h1 => ?_, fun h1 => ?_⟩
  · rw [hlen] at h1
    constructor
    refine Elt.map (by omega) (by omega) fun x hx => ⟨rfl, ?_⟩
    constructor
    refine CallV.of (isScope_pf x (h x (List.mem_of_getElem? hx))) ?_
    constructor
    refine ⟨by unfold inR; omega, ?_⟩
    exact ⟨i + 1, by omega, by omega, rfl, rfl⟩
  · constructor
    exact ⟨rfl⟩
theorem prodAt_shop (X Y Z : PV) : PFun PG 108 [.agg [.sl [.agg [.str kMaps, X], .agg [.str kShop, Y]], Z], .str kShop] (.tup [.int .i64 1, .bool true]) :=
  pf_evP (rv := .tup [.p (.int .i64 1), .p (.bool true)]) (by kernel_rfl) rfl
theorem prodAt_maps (X Y Z : PV) : PFun PG 108 [.agg [.sl [.agg [.str kMaps, X], .agg [.str kShop, Y]], Z], .str kMaps] (.tup [.int .i64 0, .bool true]) :=
  pf_evP (rv := .tup [.p (.int .i64 0), .p (.bool true)]) (by kernel_rfl) rfl
theorem prods_pf (sc : List (List UInt8)) (h : (∀ s ∈ sc, s ∈ nine) ∧ sc.length ≤ 4) : PFun PG 166 [prods sc] (.int .i64 0) := by
  refine walk_166 rfl (by simp) ?_
  constructor
  refine Cmp.no (by simp) ?_
  constructor
  refine LoopF.of (fun i : Nat => ([(0, .p (prods sc)), (9, .p (prods sc)), (10, vi 2), (11, vi i)], mem0)) (fun i => 2 - i) (fun i => i ≤ 2) 0 (by omega) rfl rfl ?_
  intro i hi
  rcases (by omega : i = 0 ∨ i = 1 ∨ i = 2) with rfl | rfl | rfl
  · constructor
    refine Cmp.yes (by simp) ?_
    constructor
    refine Elt.mk' (by simp) rfl ⟨rfl, ?_⟩
    constructor
    refine CallV.of (key_pf kMaps (by decide)) ?_
    constructor
    refine Cmp.no (by simp) ?_
    constructor
    refine CallV.of (scopes_pf sc (fun s hs => List.mem_cons_of_mem _ (h.1 s hs)) (by omega)) ?_
    constructor
    refine Cmp.yes rfl ?_
    constructor
    refine ⟨by unfold inR; simp, ?_⟩
    exact ⟨1, by omega, by omega, rfl, rfl⟩
  · constructor
    refine Cmp.yes (by simp) ?_
    constructor
    refine Elt.mk' (by simp) rfl ⟨rfl, ?_⟩
    constructor
    refine CallV.of (key_pf kShop (by decide)) ?_
    constructor
    refine Cmp.yes (by simp) ?_
    constructor
    refine ⟨by unfold inR; simp, ?_⟩
    constructor
    refine Elt.mk' (by simp) rfl ⟨rfl, ?_⟩
    constructor
    refine Opr.of (r := .p (.bool false)) rfl ?_
    constructor
    refine CallV.of (scopes_pf [kOrders] (by simp) (by simp)) ?_
    constructor
    refine Cmp.yes rfl ?_
    constructor
    refine ⟨by unfold inR; simp, ?_⟩
    exact ⟨2, by omega, by omega, rfl, rfl⟩
  · constructor
    refine Cmp.no (by simp) ?_
    constructor
    exact ⟨rfl⟩
end Go.Ag
/- An abstract machine for Go functions: a row is sorted in its place (the shelf's contract, told in our words). -/
namespace Go.Ag
open Go
set_option linter.unusedVariables false
set_option linter.unusedSimpArgs false

theorem MRel.grow {X : Cells} {ow : Ow} {S : Mem} : ∀ (os : List Obj) (w : World), MRel X ow S w → MRel X ow S (Sort.grow w os.toArray) ∧ Tr X ow S.toks w ow S.toks (Sort.grow w os.toArray)
  | [], w, h => by
    rw [show Sort.grow w ([] : List Obj).toArray = w from Sort.grow_empty w]
    exact ⟨h, Tr.refl _ _ _ _⟩
  | o :: os, w, h => by
    obtain ⟨h1, t1⟩ := h.pushPlain o
    obtain ⟨h2, t2⟩ := MRel.grow os (w.alloc o) h1
    have e : Sort.grow (w.alloc o) os.toArray = Sort.grow w (o :: os).toArray := by
      rw [Sort.alloc_eq_grow, Sort.grow_grow]
      congr 1
      simp
    rw [e] at h2 t2
    exact ⟨h2, t1.trans t2⟩
theorem Enters.mk {P : Program} {f : FuncId} {fn : Func} {c : Code} (hf : P.funcs[f]? = some fn) (hb : fn.body = some c) (hn : notGor fn = true) : Enters P f := by
  intro zs w
  have : fn.name ≠ "runtime.NumGoroutine" := by simpa [notGor] using hn
  simp [callFunc, hf, hb, this]
/-- The order of strings. -/
def leStr (a b : List UInt8) : Bool := decide (a ≤ b)
theorem sort_sc {P : Program} {f : FuncId} (he : Enters P f)
    (hc : ∀ (blk off cap : Nat) (zs : List (List UInt8)) (w : World), Sort.Holds Proofs.encStr w blk off zs.toArray → blk < w.heap.size → zs.length < 4611686018427387904 →
      Calls P f #[.slice (some ⟨blk, off, none⟩) zs.length cap] w fun e w' => e = .returned (.tuple #[]) ∧ ∃ n os, w' = Sort.grow (Sort.putRow Proofs.encStr (Sort.ahead w n) blk off (zs.mergeSort leStr).toArray) os)
    {S : Mem} (hS : S.loc = []) {b ty : Nat} {xs : List (List UInt8)} (hb : S.mem[b]? = some (.cells ty (xs.map fun s => .p (.str s)))) (hx : xs.length < 4611686018427387904) :
    SC P f [.rs b 0 xs.length 1] S fun r S' => r = .tup [] ∧ S' = { S with mem := S.mem.set b (.cells ty ((xs.mergeSort leStr).map fun s => .p (.str s))) } := by
  refine ⟨he, fun X ow w vs hM hno hs hv => ?_⟩
  have hS' : ({ S with loc := [] } : Mem) = S := by cases S; simp at hS; subst hS; rfl
  rw [hS'] at hM
  have hs1 : vs.size = 1 := hs
  obtain ⟨v, rfl⟩ : ∃ v, vs = #[v] := by
    match vs, hs1 with
    | ⟨[v]⟩, _ => exact ⟨v, rfl⟩
  have hv0 := hv 0 _ _ rfl rfl
  cases hv0 with | rs _ _ _ _ β cap h hcap =>
  obtain ⟨hβ, _⟩ := hM.alive hb h
  obtain ⟨γ, hγ, us, fr, hh, hfr, hsz, hel⟩ := hM.cells hb
  obtain rfl := hM.inj _ _ _ hγ hβ
  have hlen := hsz.1
  rw [List.length_map] at hlen
  have hbnd := hM.bnd _ _ hβ
  have hcell : ∀ j (hj : j < xs.length), us[j]? = some (Proofs.encStr (xs[j]'hj)) := by
    intro j hj
    have h1 : us[j]? = some (us[j]'(by omega)) := Array.getElem?_eq_getElem (by omega)
    have h2 := hel j (.p (.str (xs[j]'hj))) _ (by rw [List.getElem?_map, List.getElem?_eq_getElem hj]; rfl) h1
    cases h2 with | p h2 =>
    generalize hu : us[j]'(by omega) = u at h2 h1
    cases h2
    exact h1
  have hH : Sort.Holds Proofs.encStr w γ 0 xs.toArray := by
    intro j hj
    have hj : j < xs.length := by simpa using hj
    refine ⟨?_, ?_⟩
    · unfold World.cell?
      simp only [hh, Nat.zero_add, Option.isSome_none, Bool.false_eq_true, if_false]
      rw [hcell j hj]
      simp [hj]
    · unfold World.frozen?
      simp only [hh, Nat.zero_add]
      have := hfr j (by omega)
      rw [Bool.eq_false_iff]
      intro h
      simp only [Bool.and_eq_true, decide_eq_true_eq] at h
      exact this h
  refine (hc γ 0 cap xs w hH hbnd hx).mono ?_
  rintro e w' ⟨rfl, n, os, rfl⟩
  generalize hsd : xs.mergeSort leStr = ys
  have hyl : ys.length = xs.length := by rw [← hsd, List.length_mergeSort]
  obtain ⟨m1, t1⟩ := hM.writeMem (o := 0) (l := ys.map fun s => .p (.str s)) (us := ys.map Proofs.encStr) hb hβ (by simp) (by simp; omega) (by
    intro k x v h1 h2
    rw [List.getElem?_map, Option.map_eq_some_iff] at h1 h2
    obtain ⟨s, h3, rfl⟩ := h1
    obtain ⟨s', h4, rfl⟩ := h2
    rw [h3] at h4
    cases h4
    exact .p (.str s))
  obtain ⟨e1, e2, e3, e4, e5⟩ := setCells_misc γ (ys.map Proofs.encStr) 0 w
  have hov : over (xs.map fun s => RV.p (.str s)) 0 (ys.map fun s => .p (.str s)) = ys.map fun s => .p (.str s) := by
    unfold over
    simp [hyl]
  rw [hov] at m1
  have hheap : (Sort.putRow Proofs.encStr (Sort.ahead w n) γ 0 ys.toArray).heap = (w.setCells γ 0 (ys.map Proofs.encStr)).heap := by
    apply Array.ext_getElem?
    intro k
    by_cases hk : γ = k
    · subst hk
      rw [setCells_row γ _ _ (ys.map Proofs.encStr) 0 us w hh (by simp; omega)]
      simp only [Sort.putRow, Sort.mapBlock, Sort.heap_ahead, Array.getElem?_modify, if_true, hh, Option.map_some, Sort.onCells]
      congr 2
      apply Array.ext_getElem?
      intro j
      simp only [Sort.putCells, Array.getElem?_mapIdx, List.getElem?_toArray]
      rw [over_get _ _ _ (by simp; omega)]
      simp only [Array.getElem?_toList, Nat.zero_le, true_and, Nat.zero_add, List.length_map, List.size_toArray, Nat.sub_zero, List.getElem?_map]
      by_cases hj : j < ys.length
      · rw [if_pos hj, Array.getElem?_eq_getElem (by omega), List.getElem?_eq_getElem hj]
        simp [hj]
      · rw [if_neg hj]
        cases us[j]? with
        | none => rfl
        | some u => simp [hj]
    · rw [e5 k (Ne.symm hk)]
      simp only [Sort.putRow, Sort.mapBlock, Sort.heap_ahead, Array.getElem?_modify, if_neg hk]
  have hw2 : ∀ w2 : World, w2 = Sort.putRow Proofs.encStr (Sort.ahead w n) γ 0 ys.toArray → w2.heap = (w.setCells γ 0 (ys.map Proofs.encStr)).heap ∧ w2.os = w.os ∧ w2.tape = w.tape ∧ w2.output = w.output := by
    rintro w2 rfl
    exact ⟨hheap, rfl, rfl, rfl⟩
  generalize Sort.putRow Proofs.encStr (Sort.ahead w n) γ 0 ys.toArray = w2 at hw2 ⊢
  obtain ⟨k1, k2, k3, k4⟩ := hw2 w2 rfl
  have m2 := m1.heap k1 (k2.trans e1.symm) (k3.trans e2.symm) (k4.trans e3.symm)
  have t2 : Tr X ow S.toks (w.setCells γ 0 (ys.map Proofs.encStr)) ow S.toks w2 := Tr.heap k1 (k2.trans e1.symm) (k3.trans e2.symm) (k4.trans e3.symm)
  obtain ⟨m3, t3⟩ := MRel.grow os.toList w2 m2
  simp only [Array.toArray_toList] at m3 t3
  refine ⟨.tuple #[], .tup [], _, ow, rfl, ⟨rfl, rfl⟩, hS, m3, hno, ?_, (t1.trans t2).trans t3⟩
  exact .tup [] #[] rfl (fun k x v h => by simp at h)
end Go.Ag
/- An abstract machine for Go functions: rows of strings in memory whose end is not known: looked at, written, cut. -/
namespace Go.Ag
open Go
set_option linter.unusedVariables false
set_option linter.unusedSimpArgs false

/-- Strings as cells. -/
abbrev pss (xs : List (List UInt8)) : List RV := xs.map fun s => .p (.str s)
theorem ia_rs {z b off len z' : Nat} {i : Int} (S : Mem) (h0 : 0 ≤ i) (h1 : i < len) : opA (.ia z) [.rs b off len z', .p (.int .i64 i)] S = some (.ptr b (off + i.toNat * z), S) := by
  simp [opA, oInt, iaA, h0, h1]
theorem ld_rs {b o ty : Nat} {S : Mem} {xs : List (List UInt8)} {x : List UInt8} (hb : S.mem[b]? = some (.cells ty (pss xs))) (hx : xs[o]? = some x) : opA (.ld none) [.ptr b o] S = some (.p (.str x), S) := by
  simp [opA, ldA, hb, ldCells, hx]
theorem over_map {α β : Type} (f : α → β) (xs ys : List α) (o : Nat) : over (xs.map f) o (ys.map f) = (over xs o ys).map f := by
  simp [over, List.map_take, List.map_drop]
theorem over_one {α : Type} {xs : List α} {o : Nat} (x : α) (h : o < xs.length) : over xs o [x] = xs.set o x := by
  apply List.ext_getElem?
  intro k
  rw [over_get _ _ _ (by simp; omega), List.getElem?_set]
  by_cases hk : o = k
  · subst hk
    rw [if_pos ⟨by omega, by simp⟩, if_pos rfl, if_pos h]
    simp
  · rw [if_neg (by simp; omega), if_neg hk]
theorem st_rs {b o ty : Nat} {S : Mem} {xs : List (List UInt8)} (x : List UInt8) (hb : S.mem[b]? = some (.cells ty (pss xs))) (ho : o < xs.length) :
    opA (.st 1) [.ptr b o, .p (.str x)] S = some (.top, { S with mem := S.mem.set b (.cells ty (pss (xs.set o x))) }) := by
  have h1 : over (pss xs) o [RV.p (.str x)] = pss (xs.set o x) := by
    have := over_map (fun s => RV.p (.str s)) xs [x] o
    rw [over_one x ho] at this
    exact this
  have h2 : o + 1 ≤ (pss xs).length := by simp; omega
  simp only [opA, stA, RV.solid, RV.cells, List.all_cons, List.all_nil, RV.isCell, PV.isCell, Bool.and_true, List.length_cons, List.length_nil, Nat.zero_add, beq_self_eq_true, Bool.and_self, if_true, hb, h2, h1, Option.map_some]
theorem clr_rs {b off len ty : Nat} {S : Mem} {xs : List (List UInt8)} (hb : S.mem[b]? = some (.cells ty (pss xs))) (ho : off + len ≤ xs.length) :
    opY (.clr 1 [.p (.str [])]) [.rs b off len 1] S = some (.p (.tup []), { S with mem := S.mem.set b (.cells ty (pss (over xs off (List.replicate len [])))) }) := by
  have h1 : over (pss xs) off (List.replicate len [RV.p (.str [])]).flatten = pss (over xs off (List.replicate len [])) := by
    have e : (List.replicate len [RV.p (.str [])]).flatten = (List.replicate len ([] : List UInt8)).map fun s => RV.p (.str s) := by
      rw [List.map_replicate, List.flatten_replicate_singleton]
    rw [e]
    exact over_map _ _ _ _
  have h2 : off + len * 1 ≤ (pss xs).length := by simp; omega
  simp only [opY, clrA, List.length_cons, List.length_nil, Nat.zero_add, List.all_cons, List.all_nil, RV.isCell, PV.isCell, Bool.and_self, and_self, if_true, hb, h2, h1]
theorem cut_from {b off len : Nat} {S : Mem} {k : Int} (h0 : 0 ≤ k) (h1 : k < len) : opA (.sll 1 true false) [.rs b off len 1, .p (.int .i64 k)] S = some (.rs b (off + k.toNat * 1) (len - k.toNat) 1, S) := by
  have e2 : ¬ k.toNat = len := by omega
  have e3 : k ≤ len := by omega
  by_cases e1 : k.toNat = 0
  · simp [opA, cutArgs, asInts, oInt, sllA, cutB, e1, h0, e3]
  · simp [opA, cutArgs, asInts, oInt, sllA, cutB, e1, e2, h0, e3]
theorem cut_to {b off len : Nat} {S : Mem} {k : Int} (h0 : 0 ≤ k) (h1 : k ≤ len) : opA (.sll 1 false true) [.rs b off len 1, .p (.int .i64 k)] S = some (.rs b off k.toNat 1, S) := by
  simp [opA, cutArgs, asInts, oInt, sllA, cutB, h0, h1]
theorem ia_nat {b len z' i : Nat} (S : Mem) (h : i < len) : opA (.ia 1) [.rs b 0 len z', .p (.int .i64 (i : Int))] S = some (.ptr b i, S) := by
  have := ia_rs (z := 1) (b := b) (off := 0) (len := len) (z' := z') (i := (i : Int)) S (by omega) (by omega)
  rw [this]
  simp
theorem ia_off {b off len z' i : Nat} (S : Mem) (h : i < len) : opA (.ia 1) [.rs b off len z', .p (.int .i64 (i : Int))] S = some (.ptr b (off + i), S) := by
  have := ia_rs (z := 1) (b := b) (off := off) (len := len) (z' := z') (i := (i : Int)) S (by omega) (by omega)
  rw [this]
  simp
theorem cut_nat {b len k : Nat} {S : Mem} (h : k < len) : opA (.sll 1 true false) [.rs b 0 len 1, .p (.int .i64 (k : Int))] S = some (.rs b k (len - k) 1, S) := by
  have := cut_from (b := b) (off := 0) (S := S) (k := (k : Int)) (len := len) (by omega) (by omega)
  rw [this]
  simp
theorem cut_tn {b off len k : Nat} {S : Mem} (h : k ≤ len) : opA (.sll 1 false true) [.rs b off len 1, .p (.int .i64 (k : Int))] S = some (.rs b off k 1, S) := by
  have := cut_to (b := b) (off := off) (S := S) (k := (k : Int)) (len := len) (by omega) (by omega)
  rw [this]
  simp
theorem app_new {ty bytes : Nat} {S : Mem} {q : Bool} {xs : List (List UInt8)} (hne : xs ≠ []) (hlim : xs.length * bytes ≤ lim) :
    opY (.appg 1 ty bytes) [.nsl q, .p (.sl (xs.map PV.str))] S = some (.rs S.mem.length 0 xs.length 1, { S with mem := S.mem ++ [.cells (2 * ty + 1) (pss xs)] }) := by
  have h1 : uni 1 (xs.map PV.str) = true := by
    rw [uni, List.all_eq_true]
    intro x hx
    obtain ⟨s, _, rfl⟩ := List.mem_map.1 hx
    rfl
  have h2 : (flat (xs.map PV.str)).map RV.p = pss xs := by
    clear hne hlim h1
    induction xs with
    | nil => rfl
    | cons x xs ih => rw [List.map_cons, flat_cons, List.map_append, ih]; rfl
  have h3 : ¬ xs.length = 0 := by cases xs <;> simp_all
  simp only [opY, growA, srcC, h1, if_true, List.length_map, h2, h3, if_false, hlim]
theorem chunk_one : ∀ (xs : List PV), chunk 1 xs.length xs = xs
  | [] => rfl
  | x :: xs => by
    show (if 1 = 1 then (x :: xs).headD .top else _) :: chunk 1 xs.length ((x :: xs).drop 1) = _
    rw [if_pos rfl, List.drop_one, List.tail_cons, chunk_one xs]
    rfl
theorem mapO_map {α β γ : Type} {f : β → Option γ} {g : α → β} {h : α → γ} (e : ∀ x, f (g x) = some (h x)) : ∀ l : List α, mapO f (l.map g) = some (l.map h)
  | [] => rfl
  | x :: l => by simp only [List.map_cons, mapO, e, mapO_map e l]
theorem still_rs {b k ty : Nat} {S : Mem} {xs : List (List UInt8)} (hb : S.mem[b]? = some (.cells ty (pss xs))) (hk : k ≤ xs.length) : (RV.rs b 0 k 1).still S = some (.sl ((xs.take k).map PV.str)) := by
  have h1 : sub (pss xs) 0 (k * 1) = some (pss (xs.take k)) := by
    unfold sub
    rw [if_pos (by simp; omega)]
    simp [List.map_take]
  have h2 : mapO (RV.stillN 5 S) (pss (xs.take k)) = some ((xs.take k).map PV.str) := mapO_map (g := fun s => RV.p (.str s)) (h := PV.str) (fun x => rfl) _
  have h3 : ((xs.take k).map PV.str).all (fun x => !x.isAgg) = true := by
    rw [List.all_eq_true]
    intro x hx
    obtain ⟨s, _, rfl⟩ := List.mem_map.1 hx
    rfl
  have h4 : ((xs.take k).map PV.str).length = k := by simp; omega
  have h5 := chunk_one ((xs.take k).map PV.str)
  rw [h4] at h5
  simp only [RV.still, RV.stillN, hb, h1, h2, h3, h5]
  simp
theorem low_pss (n m ty : Nat) (xs : List (List UInt8)) : (Blk.cells ty (pss xs)).low n m = true := by
  simp [Blk.low, RV.low]
end Go.Ag
/- ScopesAgree: scopes that cover others, in plain words. -/
namespace Go.Ag
open Go
set_option linter.unusedVariables false
set_option linter.unusedSimpArgs false
set_option maxRecDepth 100000

abbrev Txt := List UInt8
/-- Whether a scope covers another one. -/
def cov (a b : Txt) : Bool := a == b || (a.getLast? == some 42 && a.dropLast.isPrefixOf b)
def ten : List Txt := [97, 58, 99] :: nine
theorem cov_self (a : Txt) : cov a a = true := by simp [cov]
theorem cov_trans {a b c : Txt} (ha : a ∈ ten) (hb : b ∈ ten) (hc : c ∈ ten) (h : cov a b = true) (k : cov b c = true) : cov a c = true := by
  have : ∀ a ∈ ten, ∀ b ∈ ten, ∀ c ∈ ten, cov a b = true → cov b c = true → cov a c = true := by decide +kernel
  exact this a ha b hb c hc h k
theorem cov_comp {a b c : Txt} (ha : a ∈ ten) (hb : b ∈ ten) (hc : c ∈ ten) (h : cov a c = true) (k : cov b c = true) : cov a b = true ∨ cov b a = true := by
  have : ∀ a ∈ ten, ∀ b ∈ ten, ∀ c ∈ ten, cov a c = true → cov b c = true → cov a b = true ∨ cov b a = true := by decide +kernel
  exact this a ha b hb c hc h k
def rank (a : Txt) : Nat := (ten.filter (cov · a)).length
theorem cov_rank {a b : Txt} (ha : a ∈ ten) (hb : b ∈ ten) (hne : a ≠ b) (h : cov a b = true) : rank a < rank b := by
  have : ∀ a ∈ ten, ∀ b ∈ ten, a ≠ b → cov a b = true → rank a < rank b := by decide +kernel
  exact this a ha b hb hne h

def anyCov (l : List Txt) (s : Txt) : Bool := l.any (cov · s)
def allCov (l want : List Txt) : Bool := want.all (anyCov l ·)
/-- Those that no other one covers. -/
def leastL (l : List Txt) : List Txt := l.filter fun s => !(l.any fun h => h != s && cov h s)
def meet1 (x y : Txt) : List Txt := if cov x y = true then [y] else if cov y x = true then [x] else []
def meetL (a b : List Txt) : List Txt := a.flatMap fun x => b.flatMap fun y => meet1 x y
theorem anyCov_iff {l : List Txt} {s : Txt} : anyCov l s = true ↔ ∃ h ∈ l, cov h s = true := by simp [anyCov]
theorem leastL_sub {l : List Txt} {s : Txt} (h : s ∈ leastL l) : s ∈ l := (List.mem_filter.1 h).1
theorem any_least {l : List Txt} (hl : ∀ s ∈ l, s ∈ ten) {s : Txt} (hs : s ∈ ten) : anyCov (leastL l) s = anyCov l s := by
  rw [Bool.eq_iff_iff, anyCov_iff, anyCov_iff]
  constructor
  · rintro ⟨h, hm, hc⟩
    exact ⟨h, leastL_sub hm, hc⟩
  · rintro ⟨h, hm, hc⟩
    have key : ∀ (n : Nat) (h : Txt), rank h ≤ n → h ∈ l → cov h s = true → ∃ h ∈ leastL l, cov h s = true := by
      intro n
      induction n with
      | zero =>
        intro h hr hm hc
        by_cases hh : h ∈ leastL l
        · exact ⟨h, hh, hc⟩
        · exfalso
          simp only [leastL, List.mem_filter, hm, true_and, Bool.not_eq_true', Bool.not_eq_false, List.any_eq_true, Bool.and_eq_true, bne_iff_ne, ne_eq] at hh
          obtain ⟨g, hg, hne, hgc⟩ := hh
          have := cov_rank (hl g hg) (hl h hm) hne hgc
          omega
      | succ n ih =>
        intro h hr hm hc
        by_cases hh : h ∈ leastL l
        · exact ⟨h, hh, hc⟩
        · simp only [leastL, List.mem_filter, hm, true_and, Bool.not_eq_true', Bool.not_eq_false, List.any_eq_true, Bool.and_eq_true, bne_iff_ne, ne_eq] at hh
          obtain ⟨g, hg, hne, hgc⟩ := hh
          have := cov_rank (hl g hg) (hl h hm) hne hgc
          exact ih g (by omega) hg (cov_trans (hl g hg) (hl h hm) hs hgc hc)
    exact key (rank h) h (Nat.le_refl _) hm hc
theorem any_same {l r : List Txt} (h : ∀ x, x ∈ r ↔ x ∈ l) (s : Txt) : anyCov r s = anyCov l s := by
  rw [Bool.eq_iff_iff, anyCov_iff, anyCov_iff]
  constructor
  · rintro ⟨x, hx, hc⟩; exact ⟨x, (h x).1 hx, hc⟩
  · rintro ⟨x, hx, hc⟩; exact ⟨x, (h x).2 hx, hc⟩
theorem meetL_sub {a b : List Txt} {s : Txt} (h : s ∈ meetL a b) : s ∈ a ∨ s ∈ b := by
  simp only [meetL, List.mem_flatMap] at h
  obtain ⟨x, hx, y, hy, h⟩ := h
  unfold meet1 at h
  split at h
  · simp at h; subst h; exact .inr hy
  · split at h
    · simp at h; subst h; exact .inl hx
    · simp at h
theorem any_meet {a b : List Txt} (ha : ∀ s ∈ a, s ∈ ten) (hb : ∀ s ∈ b, s ∈ ten) {s : Txt} (hs : s ∈ ten) : anyCov (meetL a b) s = (anyCov a s && anyCov b s) := by
  rw [Bool.eq_iff_iff, Bool.and_eq_true, anyCov_iff, anyCov_iff, anyCov_iff]
  constructor
  · rintro ⟨h, hm, hc⟩
    simp only [meetL, List.mem_flatMap] at hm
    obtain ⟨x, hx, y, hy, hm⟩ := hm
    unfold meet1 at hm
    split at hm
    · rename_i h1
      simp at hm; subst hm
      exact ⟨⟨x, hx, cov_trans (ha x hx) (hb h hy) hs h1 hc⟩, ⟨h, hy, hc⟩⟩
    · split at hm
      · rename_i h1
        simp at hm; subst hm
        exact ⟨⟨h, hx, hc⟩, ⟨y, hy, cov_trans (hb y hy) (ha h hx) hs h1 hc⟩⟩
      · simp at hm
  · rintro ⟨⟨x, hx, h1⟩, ⟨y, hy, h2⟩⟩
    rcases cov_comp (ha x hx) (hb y hy) hs h1 h2 with h3 | h3
    · exact ⟨y, by simp only [meetL, List.mem_flatMap]; exact ⟨x, hx, y, hy, by simp [meet1, h3]⟩, h2⟩
    · by_cases h4 : cov x y = true
      · exact ⟨y, by simp only [meetL, List.mem_flatMap]; exact ⟨x, hx, y, hy, by simp [meet1, h4]⟩, h2⟩
      · exact ⟨x, by simp only [meetL, List.mem_flatMap]; exact ⟨x, hx, y, hy, by simp [meet1, h3, h4]⟩, h1⟩
theorem all_back {l r : List Txt} (h : ∀ x, x ∈ r ↔ x ∈ l) : allCov l (leastL r) = true := by
  simp only [allCov, List.all_eq_true]
  intro s hs
  exact anyCov_iff.2 ⟨s, (h s).1 (leastL_sub hs), cov_self s⟩
theorem all_forth {l r : List Txt} (h : ∀ x, x ∈ r ↔ x ∈ l) (hl : ∀ s ∈ l, s ∈ ten) : allCov (leastL r) l = true := by
  simp only [allCov, List.all_eq_true]
  intro s hs
  rw [any_least (fun x hx => hl x ((h x).1 hx)) (hl s hs)]
  exact anyCov_iff.2 ⟨s, (h s).2 hs, cov_self s⟩
def compactL : List Txt → List Txt
  | [] => []
  | [a] => [a]
  | a :: b :: r => if a = b then compactL (b :: r) else a :: compactL (b :: r)
theorem compactL_mem : ∀ {l : List Txt} {x : Txt}, x ∈ compactL l ↔ x ∈ l
  | [], x => by simp [compactL]
  | [a], x => by simp [compactL]
  | a :: b :: r, x => by
    have ih := compactL_mem (l := b :: r) (x := x)
    unfold compactL
    split
    · rename_i h
      subst h
      rw [ih]
      simp
    · rw [List.mem_cons, ih]
      simp
theorem compactL_len : ∀ (l : List Txt), (compactL l).length ≤ l.length
  | [] => by simp [compactL]
  | [a] => by simp [compactL]
  | a :: b :: r => by
    have ih := compactL_len (b :: r)
    unfold compactL
    split
    · simp only [List.length_cons] at ih ⊢; omega
    · simp only [List.length_cons] at ih ⊢; omega
theorem compactL_snoc (a b : Txt) : ∀ l : List Txt, compactL (l ++ [a, b]) = compactL (l ++ [a]) ++ (if a = b then [] else [b])
  | [] => by
    simp only [List.nil_append, compactL]
    split
    · rename_i h; subst h; rfl
    · rfl
  | [x] => by
    have ih := compactL_snoc a b []
    simp only [List.nil_append] at ih
    simp only [List.cons_append, List.nil_append]
    rw [compactL, ih]
    simp only [compactL]
    split <;> rfl
  | x :: y :: r => by
    have ih := compactL_snoc a b (y :: r)
    simp only [List.cons_append] at ih ⊢
    rw [compactL, ih]
    conv => rhs; rw [compactL]
    split <;> rfl
theorem compactL_take {xs : List Txt} {i : Nat} {a b : Txt} (ha : xs[i]? = some a) (hb : xs[i + 1]? = some b) : compactL (xs.take (i + 2)) = compactL (xs.take (i + 1)) ++ (if a = b then [] else [b]) := by
  have e1 : xs.take (i + 1) = xs.take i ++ [a] := by rw [List.take_add_one, ha]; rfl
  have e2 : xs.take (i + 2) = xs.take i ++ [a, b] := by rw [show i + 2 = i + 1 + 1 by omega, List.take_add_one, hb, e1]; simp
  rw [e1, e2, compactL_snoc]
/-- Strings in order, each once. -/
def risingL (l : List Txt) : List Txt := compactL (l.mergeSort leStr)
theorem risingL_mem {l : List Txt} {x : Txt} : x ∈ risingL l ↔ x ∈ l := by
  rw [risingL, compactL_mem, List.mem_mergeSort]
theorem risingL_len (l : List Txt) : (risingL l).length ≤ l.length := by
  have := compactL_len (l.mergeSort leStr)
  rw [List.length_mergeSort] at this
  exact this
end Go.Ag
/- The abstract code of the functions that are walked through. -/
namespace Go.Ag
open Go
set_option linter.unusedVariables false
/- gatewarden/gatekeep2.ScopesAgree -/
def h_6 : FHint := hn [25] [] [] [(0, [0]), (1, [3]), (2, [4, 5, 6]), (3, [4, 5, 6, 7, 8]), (4, [4, 5, 6, 7, 8, 9, 10]), (5, [4, 5, 6, 7, 8, 9, 10, 11, 12]), (6, [4, 6, 7, 8, 9, 10, 11, 12, 13, 14]), (7, [4, 6, 8, 9, 10, 11, 12, 13, 14, 15, 16]), (8, [4, 8, 9, 10, 11, 12, 13, 14, 15, 16, 17, 18]), (9, [4, 8, 9, 10, 11, 12, 13, 14, 15, 16, 17, 18, 19, 20]), (10, [8, 10, 11, 12, 13, 14, 15, 16, 17, 18, 19, 20, 21, 22]), (11, [11, 13, 15, 17, 19, 21, 91]), (12, [2]), (13, [2])] []
def ir_6 : IFun := ⟨112, [.t 2],
 (.seq
  (.ops [
    ⟨(some 2), .op (.mv), [.k (.p (.bool false))], none⟩] (some [0]))
  (.seq
   (.ops [
     ⟨(some 23), .op (.mv), [.r 0], none⟩,
     ⟨(some 24), .op (.build [(.nsl true), (.p (.int .i64 0))] [(0, 1), (1, 1)] [0]), [.r 23], none⟩,
     ⟨(some 25), .op (.boxH 25), [.r 24], none⟩,
     ⟨(some 3), .op (.mv), [.r 25], none⟩] (some [3]))
   (.seq
    (.ops [
      ⟨(some 26), .op (.mv), [.r 3], none⟩,
      ⟨(some 27), .call 28, [.r 26], none⟩,
      ⟨(some 28), .op (.mv), [.r 3], none⟩,
      ⟨(some 29), .call 28, [.r 28], none⟩,
      ⟨(some 30), .op (.mv), [.r 3], none⟩,
      ⟨(some 31), .op (.bsl 1), [.k (.p (.str [97])), .k (.p (.str [97, 58, 42])), .k (.p (.str [97, 58, 98])), .k (.p (.str [97, 58, 98, 58, 42])), .k (.p (.str [97, 58, 98, 58, 99])), .k (.p (.str [98])), .k (.p (.str [98, 58, 99])), .k (.p (.str [42])), .k (.p (.str [97, 58, 99]))], none⟩,
      ⟨(some 32), .call 18, [.r 30, .r 31], none⟩,
      ⟨(some 33), .op (.bsl 1), [.r 32], none⟩,
      ⟨(some 4), .op (.mv), [.r 27], none⟩,
      ⟨(some 5), .op (.mv), [.r 29], none⟩,
      ⟨(some 6), .op (.mv), [.r 33], none⟩] (some [4, 5, 6]))
    (.seq
     (.ops [
       ⟨(some 35), .op (.mv), [.r 4], none⟩,
       ⟨(some 36), .op (.mv), [.r 5], none⟩,
       ⟨(some 37), .callP 29, [.r 35, .r 36], none⟩,
       ⟨(some 34), .op (.mv), [.r 37], none⟩,
       ⟨(some 38), .op (.ext 0), [.r 34], none⟩,
       ⟨(some 39), .op (.ext 1), [.r 34], none⟩,
       ⟨(some 7), .op (.mv), [.r 38], none⟩,
       ⟨(some 8), .op (.mv), [.r 39], none⟩] (some [4, 5, 6, 7, 8]))
     (.seq
      (.ops [
        ⟨(some 41), .op (.mv), [.r 4], none⟩,
        ⟨(some 42), .callP 30, [.r 41], none⟩,
        ⟨(some 40), .op (.mv), [.r 42], none⟩,
        ⟨(some 43), .op (.ext 0), [.r 40], none⟩,
        ⟨(some 44), .op (.ext 1), [.r 40], none⟩,
        ⟨(some 9), .op (.mv), [.r 43], none⟩,
        ⟨(some 10), .op (.mv), [.r 44], none⟩] (some [4, 5, 6, 7, 8, 9, 10]))
      (.seq
       (.ops [
         ⟨(some 46), .op (.mv), [.r 4], none⟩,
         ⟨(some 47), .op (.mv), [.r 6], none⟩,
         ⟨(some 48), .callP 31, [.r 46, .r 47], none⟩,
         ⟨(some 45), .op (.mv), [.r 48], none⟩,
         ⟨(some 49), .op (.ext 0), [.r 45], none⟩,
         ⟨(some 50), .op (.ext 1), [.r 45], none⟩,
         ⟨(some 11), .op (.mv), [.r 49], none⟩,
         ⟨(some 12), .op (.mv), [.r 50], none⟩] (some [4, 5, 6, 7, 8, 9, 10, 11, 12]))
       (.seq
        (.ops [
          ⟨(some 52), .op (.mv), [.r 5], none⟩,
          ⟨(some 53), .op (.mv), [.r 6], none⟩,
          ⟨(some 54), .callP 31, [.r 52, .r 53], none⟩,
          ⟨(some 51), .op (.mv), [.r 54], none⟩,
          ⟨(some 55), .op (.ext 0), [.r 51], none⟩,
          ⟨(some 56), .op (.ext 1), [.r 51], none⟩,
          ⟨(some 13), .op (.mv), [.r 55], none⟩,
          ⟨(some 14), .op (.mv), [.r 56], none⟩] (some [4, 6, 7, 8, 9, 10, 11, 12, 13, 14]))
        (.seq
         (.ops [
           ⟨(some 58), .op (.mv), [.r 7], none⟩,
           ⟨(some 59), .op (.mv), [.r 6], none⟩,
           ⟨(some 60), .callP 31, [.r 58, .r 59], none⟩,
           ⟨(some 57), .op (.mv), [.r 60], none⟩,
           ⟨(some 61), .op (.ext 0), [.r 57], none⟩,
           ⟨(some 62), .op (.ext 1), [.r 57], none⟩,
           ⟨(some 15), .op (.mv), [.r 61], none⟩,
           ⟨(some 16), .op (.mv), [.r 62], none⟩] (some [4, 6, 8, 9, 10, 11, 12, 13, 14, 15, 16]))
         (.seq
          (.ops [
            ⟨(some 64), .op (.mv), [.r 9], none⟩,
            ⟨(some 65), .op (.mv), [.r 6], none⟩,
            ⟨(some 66), .callP 31, [.r 64, .r 65], none⟩,
            ⟨(some 63), .op (.mv), [.r 66], none⟩,
            ⟨(some 67), .op (.ext 0), [.r 63], none⟩,
            ⟨(some 68), .op (.ext 1), [.r 63], none⟩,
            ⟨(some 17), .op (.mv), [.r 67], none⟩,
            ⟨(some 18), .op (.mv), [.r 68], none⟩] (some [4, 8, 9, 10, 11, 12, 13, 14, 15, 16, 17, 18]))
          (.seq
           (.ops [
             ⟨(some 70), .op (.mv), [.r 9], none⟩,
             ⟨(some 71), .op (.mv), [.r 4], none⟩,
             ⟨(some 72), .callP 31, [.r 70, .r 71], none⟩,
             ⟨(some 69), .op (.mv), [.r 72], none⟩,
             ⟨(some 73), .op (.ext 0), [.r 69], none⟩,
             ⟨(some 74), .op (.ext 1), [.r 69], none⟩,
             ⟨(some 19), .op (.mv), [.r 73], none⟩,
             ⟨(some 20), .op (.mv), [.r 74], none⟩] (some [4, 8, 9, 10, 11, 12, 13, 14, 15, 16, 17, 18, 19, 20]))
           (.seq
            (.ops [
              ⟨(some 76), .op (.mv), [.r 4], none⟩,
              ⟨(some 77), .op (.mv), [.r 9], none⟩,
              ⟨(some 78), .callP 31, [.r 76, .r 77], none⟩,
              ⟨(some 75), .op (.mv), [.r 78], none⟩,
              ⟨(some 79), .op (.ext 0), [.r 75], none⟩,
              ⟨(some 80), .op (.ext 1), [.r 75], none⟩,
              ⟨(some 21), .op (.mv), [.r 79], none⟩,
              ⟨(some 22), .op (.mv), [.r 80], none⟩] (some [8, 10, 11, 12, 13, 14, 15, 16, 17, 18, 19, 20, 21, 22]))
            (.seq
             (.seq
              (.ops [
                ⟨(some 81), .op (.mv), [.r 8], none⟩,
                ⟨(some 82), .op (.mv), [.r 10], none⟩,
                ⟨(some 83), .op (.mv), [.r 12], none⟩,
                ⟨(some 84), .op (.mv), [.r 14], none⟩,
                ⟨(some 85), .op (.mv), [.r 16], none⟩,
                ⟨(some 86), .op (.mv), [.r 18], none⟩,
                ⟨(some 87), .op (.mv), [.r 20], none⟩,
                ⟨(some 88), .op (.mv), [.r 22], none⟩,
                ⟨(some 89), .op (.bsl 1), [.r 81, .r 82, .r 83, .r 84, .r 85, .r 86, .r 87, .r 88], none⟩,
                ⟨(some 90), .callP 32, [.r 89], none⟩,
                ⟨(some 91), .op (.bin .neq .num), [.r 90, .k (.p (.int .i64 0))], none⟩] (some [11, 13, 15, 17, 19, 21, 91]))
              (.cond (.r 91)
               (.seq
                (.ops [
                  ⟨(some 2), .op (.mv), [.k (.p (.bool false))], none⟩] (some [2]))
                .ret)
               .skip))
             (.seq
              (.ops [
                ⟨(some 92), .op (.mv), [.r 15], none⟩,
                ⟨(some 93), .op (.mv), [.r 11], none⟩,
                ⟨(some 94), .op (.mv), [.r 93], none⟩,
                ⟨(some 95), .op (.mv), [.r 13], (some (94, true))⟩,
                ⟨(some 96), .op (.pick), [.r 94, .r 95, .k (.p (.bool false))], none⟩,
                ⟨(some 97), .op (.bin .eql .bool), [.r 92, .r 96], none⟩,
                ⟨(some 98), .op (.mv), [.r 97], none⟩,
                ⟨(some 99), .op (.mv), [.r 17], (some (98, true))⟩,
                ⟨(some 100), .op (.mv), [.r 11], (some (98, true))⟩,
                ⟨(some 101), .op (.bin .eql .bool), [.r 99, .r 100], (some (98, true))⟩,
                ⟨(some 102), .op (.pick), [.r 98, .r 101, .k (.p (.bool false))], none⟩,
                ⟨(some 103), .op (.mv), [.r 102], none⟩,
                ⟨(some 104), .op (.mv), [.r 19], (some (103, true))⟩,
                ⟨(some 105), .op (.pick), [.r 103, .r 104, .k (.p (.bool false))], none⟩,
                ⟨(some 106), .op (.mv), [.r 105], none⟩,
                ⟨(some 107), .op (.mv), [.r 21], (some (106, true))⟩,
                ⟨(some 108), .op (.pick), [.r 106, .r 107, .k (.p (.bool false))], none⟩,
                ⟨(some 109), .op (.mv), [.r 108], none⟩,
                ⟨(some 110), .callP 16, [], (some (109, true))⟩,
                ⟨(some 111), .op (.pick), [.r 109, .r 110, .k (.p (.bool false))], none⟩,
                ⟨(some 2), .op (.mv), [.r 111], none⟩] (some [2]))
              .ret)))))))))))))⟩
theorem tr_6 : trFn Go.Proofs.Tryz.prog h_6 Go.Proofs.Tryz.f6 = some ir_6 := by kernel_rfl
theorem walk_6 {args : List RV} {S : Mem} {Q : RV → Mem → Prop} (hS : S.loc = []) (ha : args.length ≤ 112) (h : fnF Go.Proofs.Tryz.prog ir_6 args S Q) : SC Go.Proofs.Tryz.prog 6 args S Q := SC.walk mix Go.Proofs.Tryz.func6 tr_6 hS ha h
/- gatewarden/gatekeep2.errs -/
def h_32 : FHint := hn [] [] [] [(0, [0]), (1, [5, 6, 7]), (2, [5, 6, 7, 8]), (3, [4, 5, 6, 7]), (4, [4, 5, 6, 7, 12]), (5, [2]), (6, [5, 6, 7]), (7, [2])] [(2, [5, 6, 7])]
def ir_32_l0 : IR :=
 (.seq
  (.ops [
    ⟨(some 8), .op (.bin .lss .num), [.r 7, .r 6], none⟩] (some [5, 6, 7, 8]))
  (.seq
   (.cond (.r 8)
    .skip
    (.exit 0))
   (.seq
    (.block 1
     (.seq
      (.ops [
        ⟨(some 9), .op (.ia 1), [.r 5, .r 7], none⟩,
        ⟨(some 10), .op (.ld none), [.r 9], none⟩,
        ⟨(some 4), .op (.mv), [.r 10], none⟩] (some [4, 5, 6, 7]))
      (.seq
       (.ops [
         ⟨(some 11), .op (.mv), [.r 4], none⟩,
         ⟨(some 12), .op (.bin .neq .num), [.r 11, .k (.p (.int .i64 0))], none⟩] (some [4, 5, 6, 7, 12]))
       (.cond (.r 12)
        (.seq
         (.ops [
           ⟨(some 13), .op (.mv), [.r 4], none⟩,
           ⟨(some 2), .op (.mv), [.r 13], none⟩] (some [2]))
         .ret)
        .skip))))
    (.ops [
      ⟨(some 14), .op (.bin .add .num), [.r 7, .k (.p (.int .i64 1))], none⟩,
      ⟨(some 7), .op (.mv), [.r 14], none⟩] (some [5, 6, 7])))))
def ir_32 : IFun := ⟨15, [.t 2],
 (.seq
  (.ops [
    ⟨(some 2), .op (.mv), [.k (.p (.int .i64 0))], none⟩] (some [0]))
  (.seq
   (.seq
    (.ops [
      ⟨(some 5), .op (.mv), [.r 0], none⟩,
      ⟨(some 6), .op (.lenl), [.r 5], none⟩,
      ⟨(some 7), .op (.mv), [.k (.p (.int .i64 0))], none⟩] (some [5, 6, 7]))
    (.block 0
     (.loop (some [5, 6, 7]) ir_32_l0)))
   (.seq
    (.ops [
      ⟨(some 2), .op (.mv), [.k (.p (.int .i64 0))], none⟩] (some [2]))
    .ret)))⟩
theorem tr_32 : trFn Go.Proofs.Tryz.prog h_32 Go.Proofs.Tryz.f32 = some ir_32 := by kernel_rfl
theorem walk_32 {args : List RV} {S : Mem} {Q : RV → Mem → Prop} (hS : S.loc = []) (ha : args.length ≤ 15) (h : fnF Go.Proofs.Tryz.prog ir_32 args S Q) : SC Go.Proofs.Tryz.prog 32 args S Q := SC.walk mix Go.Proofs.Tryz.func32 tr_32 hS ha h
/- gatewarden/token.Meet -/
def h_29 : FHint := hn [] [] [] [(0, [0, 1]), (1, [0, 1, 6]), (2, [0, 1, 6, 17]), (3, [4, 5]), (4, [0, 1, 7]), (5, [1, 7, 19, 20, 21]), (6, [1, 7, 19, 20, 21, 22]), (7, [1, 7, 9, 19, 20, 21]), (8, [1, 7, 9, 19, 20, 21, 25, 26, 27]), (9, [1, 7, 9, 19, 20, 21, 25, 26, 27, 28]), (10, [1, 7, 9, 11, 19, 20, 21, 25, 26, 27]), (11, [1, 7, 9, 11, 19, 20, 21, 25, 26, 27, 31]), (13, [1, 7, 9, 19, 20, 21, 25, 26, 27, 39]), (14, [1, 7, 9, 19, 20, 21, 25, 26, 27]), (12, [1, 7, 9, 19, 20, 21, 25, 26, 27]), (15, [1, 7, 9, 19, 20, 21, 25, 26, 27]), (16, [1, 7, 19, 20, 21]), (17, [7]), (18, [7, 53]), (19, [4, 5]), (20, [4, 5])] [(6, [1, 7, 19, 20, 21]), (9, [1, 7, 9, 19, 20, 21, 25, 26, 27])]
def ir_29_l0 : IR :=
 (.seq
  (.ops [
    ⟨(some 28), .op (.bin .lss .num), [.r 27, .r 26], none⟩] (some [1, 7, 9, 19, 20, 21, 25, 26, 27, 28]))
  (.seq
   (.cond (.r 28)
    .skip
    (.exit 2))
   (.seq
    (.block 3
     (.seq
      (.ops [
        ⟨(some 29), .op (.ia 1), [.r 25, .r 27], none⟩,
        ⟨(some 30), .op (.ld none), [.r 29], none⟩,
        ⟨(some 11), .op (.mv), [.r 30], none⟩] (some [1, 7, 9, 11, 19, 20, 21, 25, 26, 27]))
      (.block 4
       (.seq
        (.ops [
          ⟨(some 32), .op (.mv), [.r 9], none⟩,
          ⟨(some 33), .op (.mv), [.r 11], none⟩,
          ⟨(some 34), .callP 87, [.r 32, .r 33], none⟩,
          ⟨(some 31), .op (.mv), [.r 34], none⟩] (some [1, 7, 9, 11, 19, 20, 21, 25, 26, 27, 31]))
        (.cond (.r 31)
         (.ops [
           ⟨(some 35), .op (.mv), [.r 7], none⟩,
           ⟨(some 36), .op (.mv), [.r 11], none⟩,
           ⟨(some 37), .op (.bsl 1), [.r 36], none⟩,
           ⟨(some 38), .op (.app 1 9 16 false), [.r 35, .r 37], none⟩,
           ⟨(some 7), .op (.mv), [.r 38], none⟩] (some [1, 7, 9, 19, 20, 21, 25, 26, 27]))
         (.seq
          (.ops [
            ⟨(some 40), .op (.mv), [.r 11], none⟩,
            ⟨(some 41), .op (.mv), [.r 9], none⟩,
            ⟨(some 42), .callP 87, [.r 40, .r 41], none⟩,
            ⟨(some 39), .op (.mv), [.r 42], none⟩] (some [1, 7, 9, 19, 20, 21, 25, 26, 27, 39]))
          (.cond (.r 39)
           (.ops [
             ⟨(some 43), .op (.mv), [.r 7], none⟩,
             ⟨(some 44), .op (.mv), [.r 9], none⟩,
             ⟨(some 45), .op (.bsl 1), [.r 44], none⟩,
             ⟨(some 46), .op (.app 1 9 16 false), [.r 43, .r 45], none⟩,
             ⟨(some 7), .op (.mv), [.r 46], none⟩] (some [1, 7, 9, 19, 20, 21, 25, 26, 27]))
           .skip)))))))
    (.ops [
      ⟨(some 47), .op (.bin .add .num), [.r 27, .k (.p (.int .i64 1))], none⟩,
      ⟨(some 27), .op (.mv), [.r 47], none⟩] (some [1, 7, 9, 19, 20, 21, 25, 26, 27])))))
def ir_29_l1 : IR :=
 (.seq
  (.ops [
    ⟨(some 22), .op (.bin .lss .num), [.r 21, .r 20], none⟩] (some [1, 7, 19, 20, 21, 22]))
  (.seq
   (.cond (.r 22)
    .skip
    (.exit 0))
   (.seq
    (.block 1
     (.seq
      (.ops [
        ⟨(some 23), .op (.ia 1), [.r 19, .r 21], none⟩,
        ⟨(some 24), .op (.ld none), [.r 23], none⟩,
        ⟨(some 9), .op (.mv), [.r 24], none⟩] (some [1, 7, 9, 19, 20, 21]))
      (.seq
       (.ops [
         ⟨(some 25), .op (.mv), [.r 1], none⟩,
         ⟨(some 26), .op (.lenl), [.r 25], none⟩,
         ⟨(some 27), .op (.mv), [.k (.p (.int .i64 0))], none⟩] (some [1, 7, 9, 19, 20, 21, 25, 26, 27]))
       (.block 2
        (.loop (some [1, 7, 9, 19, 20, 21, 25, 26, 27]) ir_29_l0)))))
    (.ops [
      ⟨(some 48), .op (.bin .add .num), [.r 21, .k (.p (.int .i64 1))], none⟩,
      ⟨(some 21), .op (.mv), [.r 48], none⟩] (some [1, 7, 19, 20, 21])))))
def ir_29 : IFun := ⟨55, [.t 4, .t 5],
 (.seq
  (.ops [
    ⟨(some 4), .op (.mv), [.k (.nsl true)], none⟩,
    ⟨(some 5), .op (.mv), [.k (.p (.int .i64 0))], none⟩] (some [0, 1]))
  (.seq
   (.seq
    (.ops [
      ⟨(some 12), .op (.mv), [.r 0], none⟩,
      ⟨(some 13), .op (.mv), [.r 1], none⟩,
      ⟨(some 14), .op (.bsl 1), [.r 12, .r 13], none⟩,
      ⟨(some 15), .callP 86, [.r 14], none⟩,
      ⟨(some 6), .op (.mv), [.r 15], none⟩] (some [0, 1, 6]))
    (.seq
     (.ops [
       ⟨(some 16), .op (.mv), [.r 6], none⟩,
       ⟨(some 17), .op (.bin .neq .num), [.r 16, .k (.p (.int .i64 0))], none⟩] (some [0, 1, 6, 17]))
     (.cond (.r 17)
      (.seq
       (.ops [
         ⟨(some 18), .op (.mv), [.r 6], none⟩,
         ⟨(some 4), .op (.mv), [.k (.nsl true)], none⟩,
         ⟨(some 5), .op (.mv), [.r 18], none⟩] (some [4, 5]))
       .ret)
      .skip)))
   (.seq
    (.ops [
      ⟨(some 7), .op (.mv), [.k (.nsl true)], none⟩] (some [0, 1, 7]))
    (.seq
     (.seq
      (.ops [
        ⟨(some 19), .op (.mv), [.r 0], none⟩,
        ⟨(some 20), .op (.lenl), [.r 19], none⟩,
        ⟨(some 21), .op (.mv), [.k (.p (.int .i64 0))], none⟩] (some [1, 7, 19, 20, 21]))
      (.block 0
       (.loop (some [1, 7, 19, 20, 21]) ir_29_l1)))
     (.seq
      (.ops [
        ⟨(some 49), .op (.mv), [.r 7], none⟩,
        ⟨(some 50), .callP 88, [.r 49], none⟩,
        ⟨(some 7), .op (.mv), [.r 50], none⟩] (some [7]))
      (.seq
       (.seq
        (.ops [
          ⟨(some 51), .op (.mv), [.r 7], none⟩,
          ⟨(some 52), .op (.lenl), [.r 51], none⟩,
          ⟨(some 53), .op (.bin .gtr .num), [.r 52, .k (.p (.int .i64 50))], none⟩] (some [7, 53]))
        (.cond (.r 53)
         (.seq
          (.ops [
            ⟨(some 4), .op (.mv), [.k (.nsl true)], none⟩,
            ⟨(some 5), .op (.mv), [.k (.p (.int .i64 2))], none⟩] (some [4, 5]))
          .ret)
         .skip))
       (.seq
        (.ops [
          ⟨(some 54), .op (.mv), [.r 7], none⟩,
          ⟨(some 4), .op (.mv), [.r 54], none⟩,
          ⟨(some 5), .op (.mv), [.k (.p (.int .i64 0))], none⟩] (some [4, 5]))
        .ret)))))))⟩
theorem tr_29 : trFn Go.Proofs.Tryz.prog h_29 Go.Proofs.Tryz.f29 = some ir_29 := by kernel_rfl
theorem walk_29 {args : List RV} {S : Mem} {Q : RV → Mem → Prop} (hS : S.loc = []) (ha : args.length ≤ 55) (h : fnF Go.Proofs.Tryz.prog ir_29 args S Q) : SC Go.Proofs.Tryz.prog 29 args S Q := SC.walk mix Go.Proofs.Tryz.func29 tr_29 hS ha h
/- gatewarden/token.LeastScopes -/
def h_30 : FHint := hn [] [] [] [(0, [0]), (1, [0, 4]), (2, [0, 4, 8]), (3, [2, 3]), (4, [2, 3])] []
def ir_30 : IFun := ⟨12, [.t 2, .t 3],
 (.seq
  (.ops [
    ⟨(some 2), .op (.mv), [.k (.nsl true)], none⟩,
    ⟨(some 3), .op (.mv), [.k (.p (.int .i64 0))], none⟩] (some [0]))
  (.seq
   (.seq
    (.ops [
      ⟨(some 5), .op (.mv), [.r 0], none⟩,
      ⟨(some 6), .callP 89, [.r 5], none⟩,
      ⟨(some 4), .op (.mv), [.r 6], none⟩] (some [0, 4]))
    (.seq
     (.ops [
       ⟨(some 7), .op (.mv), [.r 4], none⟩,
       ⟨(some 8), .op (.bin .neq .num), [.r 7, .k (.p (.int .i64 0))], none⟩] (some [0, 4, 8]))
     (.cond (.r 8)
      (.seq
       (.ops [
         ⟨(some 9), .op (.mv), [.r 4], none⟩,
         ⟨(some 2), .op (.mv), [.k (.nsl true)], none⟩,
         ⟨(some 3), .op (.mv), [.r 9], none⟩] (some [2, 3]))
       .ret)
      .skip)))
   (.seq
    (.ops [
      ⟨(some 10), .op (.mv), [.r 0], none⟩,
      ⟨(some 11), .callP 88, [.r 10], none⟩,
      ⟨(some 2), .op (.mv), [.r 11], none⟩,
      ⟨(some 3), .op (.mv), [.k (.p (.int .i64 0))], none⟩] (some [2, 3]))
    .ret)))⟩
theorem tr_30 : trFn Go.Proofs.Tryz.prog h_30 Go.Proofs.Tryz.f30 = some ir_30 := by kernel_rfl
theorem walk_30 {args : List RV} {S : Mem} {Q : RV → Mem → Prop} (hS : S.loc = []) (ha : args.length ≤ 12) (h : fnF Go.Proofs.Tryz.prog ir_30 args S Q) : SC Go.Proofs.Tryz.prog 30 args S Q := SC.walk mix Go.Proofs.Tryz.func30 tr_30 hS ha h
/- gatewarden/token.Covers -/
def h_31 : FHint := hn [] [] [] [(0, [0, 1]), (1, [0, 1, 6]), (2, [0, 1, 6, 12]), (3, [4, 5]), (4, [4, 5])] []
def ir_31 : IFun := ⟨17, [.t 4, .t 5],
 (.seq
  (.ops [
    ⟨(some 4), .op (.mv), [.k (.p (.bool false))], none⟩,
    ⟨(some 5), .op (.mv), [.k (.p (.int .i64 0))], none⟩] (some [0, 1]))
  (.seq
   (.seq
    (.ops [
      ⟨(some 7), .op (.mv), [.r 0], none⟩,
      ⟨(some 8), .op (.mv), [.r 1], none⟩,
      ⟨(some 9), .op (.bsl 1), [.r 7, .r 8], none⟩,
      ⟨(some 10), .callP 86, [.r 9], none⟩,
      ⟨(some 6), .op (.mv), [.r 10], none⟩] (some [0, 1, 6]))
    (.seq
     (.ops [
       ⟨(some 11), .op (.mv), [.r 6], none⟩,
       ⟨(some 12), .op (.bin .neq .num), [.r 11, .k (.p (.int .i64 0))], none⟩] (some [0, 1, 6, 12]))
     (.cond (.r 12)
      (.seq
       (.ops [
         ⟨(some 13), .op (.mv), [.r 6], none⟩,
         ⟨(some 4), .op (.mv), [.k (.p (.bool false))], none⟩,
         ⟨(some 5), .op (.mv), [.r 13], none⟩] (some [4, 5]))
       .ret)
      .skip)))
   (.seq
    (.ops [
      ⟨(some 14), .op (.mv), [.r 0], none⟩,
      ⟨(some 15), .op (.mv), [.r 1], none⟩,
      ⟨(some 16), .callP 90, [.r 14, .r 15], none⟩,
      ⟨(some 4), .op (.mv), [.r 16], none⟩,
      ⟨(some 5), .op (.mv), [.k (.p (.int .i64 0))], none⟩] (some [4, 5]))
    .ret)))⟩
theorem tr_31 : trFn Go.Proofs.Tryz.prog h_31 Go.Proofs.Tryz.f31 = some ir_31 := by kernel_rfl
theorem walk_31 {args : List RV} {S : Mem} {Q : RV → Mem → Prop} (hS : S.loc = []) (ha : args.length ≤ 17) (h : fnF Go.Proofs.Tryz.prog ir_31 args S Q) : SC Go.Proofs.Tryz.prog 31 args S Q := SC.walk mix Go.Proofs.Tryz.func31 tr_31 hS ha h
/- gatewarden/token.checkLists -/
def h_86 : FHint := hn [] [] [] [(0, [0]), (1, [6, 7, 8]), (2, [6, 7, 8, 9]), (3, [4, 6, 7, 8]), (4, [5, 6, 7, 8]), (5, [5, 6, 7, 8, 15]), (6, [2]), (7, [6, 7, 8]), (8, [2])] [(2, [6, 7, 8])]
def ir_86_l0 : IR :=
 (.seq
  (.ops [
    ⟨(some 9), .op (.bin .lss .num), [.r 8, .r 7], none⟩] (some [6, 7, 8, 9]))
  (.seq
   (.cond (.r 9)
    .skip
    (.exit 0))
   (.seq
    (.block 1
     (.seq
      (.ops [
        ⟨(some 10), .op (.ia 1), [.r 6, .r 8], none⟩,
        ⟨(some 11), .op (.ld none), [.r 10], none⟩,
        ⟨(some 4), .op (.mv), [.r 11], none⟩] (some [4, 6, 7, 8]))
      (.seq
       (.ops [
         ⟨(some 12), .op (.mv), [.r 4], none⟩,
         ⟨(some 13), .callP 89, [.r 12], none⟩,
         ⟨(some 5), .op (.mv), [.r 13], none⟩] (some [5, 6, 7, 8]))
       (.seq
        (.ops [
          ⟨(some 14), .op (.mv), [.r 5], none⟩,
          ⟨(some 15), .op (.bin .neq .num), [.r 14, .k (.p (.int .i64 0))], none⟩] (some [5, 6, 7, 8, 15]))
        (.cond (.r 15)
         (.seq
          (.ops [
            ⟨(some 16), .op (.mv), [.r 5], none⟩,
            ⟨(some 2), .op (.mv), [.r 16], none⟩] (some [2]))
          .ret)
         .skip)))))
    (.ops [
      ⟨(some 17), .op (.bin .add .num), [.r 8, .k (.p (.int .i64 1))], none⟩,
      ⟨(some 8), .op (.mv), [.r 17], none⟩] (some [6, 7, 8])))))
def ir_86 : IFun := ⟨18, [.t 2],
 (.seq
  (.ops [
    ⟨(some 2), .op (.mv), [.k (.p (.int .i64 0))], none⟩] (some [0]))
  (.seq
   (.seq
    (.ops [
      ⟨(some 6), .op (.mv), [.r 0], none⟩,
      ⟨(some 7), .op (.lenl), [.r 6], none⟩,
      ⟨(some 8), .op (.mv), [.k (.p (.int .i64 0))], none⟩] (some [6, 7, 8]))
    (.block 0
     (.loop (some [6, 7, 8]) ir_86_l0)))
   (.seq
    (.ops [
      ⟨(some 2), .op (.mv), [.k (.p (.int .i64 0))], none⟩] (some [2]))
    .ret)))⟩
theorem tr_86 : trFn Go.Proofs.Tryz.prog h_86 Go.Proofs.Tryz.f86 = some ir_86 := by kernel_rfl
theorem walk_86 {args : List RV} {S : Mem} {Q : RV → Mem → Prop} (hS : S.loc = []) (ha : args.length ≤ 18) (h : fnF Go.Proofs.Tryz.prog ir_86 args S Q) : SC Go.Proofs.Tryz.prog 86 args S Q := SC.walk mix Go.Proofs.Tryz.func86 tr_86 hS ha h
/- gatewarden/token.coverAll -/
def h_90 : FHint := hn [2] [] [] [(0, [1, 2]), (1, [4])] []
def ir_90 : IFun := ⟨9, [.t 4],
 (.seq
  (.ops [
    ⟨(some 2), .op (.boxH 45), [.r 0], none⟩,
    ⟨(some 4), .op (.mv), [.k (.p (.bool false))], none⟩] (some [1, 2]))
  (.seq
   (.ops [
     ⟨(some 5), .op (.mv), [.r 1], none⟩,
     ⟨(some 6), .op (.mkfn 151 0), [.r 2], none⟩,
     ⟨(some 7), .call 148, [.r 5, .r 6], none⟩,
     ⟨(some 8), .op (.un .not), [.r 7], none⟩,
     ⟨(some 4), .op (.mv), [.r 8], none⟩] (some [4]))
   .ret))⟩
theorem tr_90 : trFn Go.Proofs.Tryz.prog h_90 Go.Proofs.Tryz.f90 = some ir_90 := by kernel_rfl
theorem walk_90 {args : List RV} {S : Mem} {Q : RV → Mem → Prop} (hS : S.loc = []) (ha : args.length ≤ 9) (h : fnF Go.Proofs.Tryz.prog ir_90 args S Q) : SC Go.Proofs.Tryz.prog 90 args S Q := SC.walk mix Go.Proofs.Tryz.func90 tr_90 hS ha h
/- gatewarden/token.coverAll$1 -/
def h_151 : FHint := hn [] [] [] [(0, [0, 1]), (1, [3])] []
def ir_151 : IFun := ⟨8, [.t 3],
 (.seq
  (.ops [
    ⟨(some 3), .op (.mv), [.k (.p (.bool false))], none⟩] (some [0, 1]))
  (.seq
   (.ops [
     ⟨(some 4), .op (.ld none), [.r 1], none⟩,
     ⟨(some 5), .op (.mv), [.r 0], none⟩,
     ⟨(some 6), .callP 152, [.r 4, .r 5], none⟩,
     ⟨(some 7), .op (.un .not), [.r 6], none⟩,
     ⟨(some 3), .op (.mv), [.r 7], none⟩] (some [3]))
   .ret))⟩
theorem tr_151 : trFn Go.Proofs.Tryz.prog h_151 Go.Proofs.Tryz.f151 = some ir_151 := by kernel_rfl
theorem walk_151 {args : List RV} {S : Mem} {Q : RV → Mem → Prop} (hS : S.loc = []) (ha : args.length ≤ 8) (h : fnF Go.Proofs.Tryz.prog ir_151 args S Q) : SC Go.Proofs.Tryz.prog 151 args S Q := SC.walk mix Go.Proofs.Tryz.func151 tr_151 hS ha h
/- gatewarden/token.coveredBy -/
def h_152 : FHint := hn [3] [] [] [(0, [0, 3]), (1, [4])] []
def ir_152 : IFun := ⟨8, [.t 4],
 (.seq
  (.ops [
    ⟨(some 3), .op (.boxH 9), [.r 1], none⟩,
    ⟨(some 4), .op (.mv), [.k (.p (.bool false))], none⟩] (some [0, 3]))
  (.seq
   (.ops [
     ⟨(some 5), .op (.mv), [.r 0], none⟩,
     ⟨(some 6), .op (.mkfn 204 0), [.r 3], none⟩,
     ⟨(some 7), .call 148, [.r 5, .r 6], none⟩,
     ⟨(some 4), .op (.mv), [.r 7], none⟩] (some [4]))
   .ret))⟩
theorem tr_152 : trFn Go.Proofs.Tryz.prog h_152 Go.Proofs.Tryz.f152 = some ir_152 := by kernel_rfl
theorem walk_152 {args : List RV} {S : Mem} {Q : RV → Mem → Prop} (hS : S.loc = []) (ha : args.length ≤ 8) (h : fnF Go.Proofs.Tryz.prog ir_152 args S Q) : SC Go.Proofs.Tryz.prog 152 args S Q := SC.walk mix Go.Proofs.Tryz.func152 tr_152 hS ha h
/- gatewarden/token.coveredBy$1 -/
def h_204 : FHint := hn [] [] [] [(0, [0, 1]), (1, [3])] []
def ir_204 : IFun := ⟨7, [.t 3],
 (.seq
  (.ops [
    ⟨(some 3), .op (.mv), [.k (.p (.bool false))], none⟩] (some [0, 1]))
  (.seq
   (.ops [
     ⟨(some 4), .op (.mv), [.r 0], none⟩,
     ⟨(some 5), .op (.ld none), [.r 1], none⟩,
     ⟨(some 6), .callP 87, [.r 4, .r 5], none⟩,
     ⟨(some 3), .op (.mv), [.r 6], none⟩] (some [3]))
   .ret))⟩
theorem tr_204 : trFn Go.Proofs.Tryz.prog h_204 Go.Proofs.Tryz.f204 = some ir_204 := by kernel_rfl
theorem walk_204 {args : List RV} {S : Mem} {Q : RV → Mem → Prop} (hS : S.loc = []) (ha : args.length ≤ 7) (h : fnF Go.Proofs.Tryz.prog ir_204 args S Q) : SC Go.Proofs.Tryz.prog 204 args S Q := SC.walk mix Go.Proofs.Tryz.func204 tr_204 hS ha h
/- gatewarden/token.least -/
def h_88 : FHint := hn [1] [] [] [(0, [1]), (1, [1]), (2, [2])] []
def ir_88 : IFun := ⟨9, [.t 2],
 (.seq
  (.ops [
    ⟨(some 1), .op (.boxH 45), [.r 0], none⟩,
    ⟨(some 2), .op (.mv), [.k (.nsl true)], none⟩] (some [1]))
  (.seq
   (.ops [
     ⟨(some 3), .op (.ld none), [.r 1], none⟩,
     ⟨(some 4), .callP 145, [.r 3], none⟩,
     ⟨none, .op (.st 1), [.r 1, .r 4], none⟩] (some [1]))
   (.seq
    (.ops [
      ⟨(some 5), .op (.ld none), [.r 1], none⟩,
      ⟨(some 6), .call 146, [.r 5], none⟩,
      ⟨(some 7), .op (.mkfn 147 0), [.r 1], none⟩,
      ⟨(some 8), .call 60, [.r 6, .r 7], none⟩,
      ⟨(some 2), .op (.mv), [.r 8], none⟩] (some [2]))
    .ret)))⟩
theorem tr_88 : trFn Go.Proofs.Tryz.prog h_88 Go.Proofs.Tryz.f88 = some ir_88 := by kernel_rfl
theorem walk_88 {args : List RV} {S : Mem} {Q : RV → Mem → Prop} (hS : S.loc = []) (ha : args.length ≤ 9) (h : fnF Go.Proofs.Tryz.prog ir_88 args S Q) : SC Go.Proofs.Tryz.prog 88 args S Q := SC.walk mix Go.Proofs.Tryz.func88 tr_88 hS ha h
/- gatewarden/token.least$1 -/
def h_147 : FHint := hn [2] [] [] [(0, [1, 2]), (1, [3])] []
def ir_147 : IFun := ⟨7, [.t 3],
 (.seq
  (.ops [
    ⟨(some 2), .op (.boxH 9), [.r 0], none⟩,
    ⟨(some 3), .op (.mv), [.k (.p (.bool false))], none⟩] (some [1, 2]))
  (.seq
   (.ops [
     ⟨(some 4), .op (.ld none), [.r 1], none⟩,
     ⟨(some 5), .op (.mkfn 149 0), [.r 2], none⟩,
     ⟨(some 6), .call 148, [.r 4, .r 5], none⟩,
     ⟨(some 3), .op (.mv), [.r 6], none⟩] (some [3]))
   .ret))⟩
theorem tr_147 : trFn Go.Proofs.Tryz.prog h_147 Go.Proofs.Tryz.f147 = some ir_147 := by kernel_rfl
theorem walk_147 {args : List RV} {S : Mem} {Q : RV → Mem → Prop} (hS : S.loc = []) (ha : args.length ≤ 7) (h : fnF Go.Proofs.Tryz.prog ir_147 args S Q) : SC Go.Proofs.Tryz.prog 147 args S Q := SC.walk mix Go.Proofs.Tryz.func147 tr_147 hS ha h
/- gatewarden/token.least$1$1 -/
def h_149 : FHint := hn [] [] [] [(0, [0, 1]), (1, [3])] []
def ir_149 : IFun := ⟨12, [.t 3],
 (.seq
  (.ops [
    ⟨(some 3), .op (.mv), [.k (.p (.bool false))], none⟩] (some [0, 1]))
  (.seq
   (.ops [
     ⟨(some 4), .op (.mv), [.r 0], none⟩,
     ⟨(some 5), .op (.ld none), [.r 1], none⟩,
     ⟨(some 6), .op (.bin .neq .num), [.r 4, .r 5], none⟩,
     ⟨(some 7), .op (.mv), [.r 6], none⟩,
     ⟨(some 8), .op (.mv), [.r 0], (some (7, true))⟩,
     ⟨(some 9), .op (.ld none), [.r 1], (some (7, true))⟩,
     ⟨(some 10), .callP 87, [.r 8, .r 9], (some (7, true))⟩,
     ⟨(some 11), .op (.pick), [.r 7, .r 10, .k (.p (.bool false))], none⟩,
     ⟨(some 3), .op (.mv), [.r 11], none⟩] (some [3]))
   .ret))⟩
theorem tr_149 : trFn Go.Proofs.Tryz.prog h_149 Go.Proofs.Tryz.f149 = some ir_149 := by kernel_rfl
theorem walk_149 {args : List RV} {S : Mem} {Q : RV → Mem → Prop} (hS : S.loc = []) (ha : args.length ≤ 12) (h : fnF Go.Proofs.Tryz.prog ir_149 args S Q) : SC Go.Proofs.Tryz.prog 149 args S Q := SC.walk mix Go.Proofs.Tryz.func149 tr_149 hS ha h
/- gatewarden/kit.Rising -/
def h_145 : FHint := hn [] [] [] [(0, [0]), (1, [0]), (2, [0]), (3, [2])] []
def ir_145 : IFun := ⟨9, [.t 2],
 (.seq
  (.ops [
    ⟨(some 2), .op (.mv), [.k (.nsl true)], none⟩] (some [0]))
  (.seq
   (.ops [
     ⟨(some 3), .op (.mv), [.r 0], none⟩,
     ⟨(some 4), .call 146, [.r 3], none⟩,
     ⟨(some 0), .op (.mv), [.r 4], none⟩] (some [0]))
   (.seq
    (.ops [
      ⟨(some 5), .op (.mv), [.r 0], none⟩,
      ⟨(some 6), .call 202, [.r 5], none⟩] (some [0]))
    (.seq
     (.ops [
       ⟨(some 7), .op (.mv), [.r 0], none⟩,
       ⟨(some 8), .call 203, [.r 7], none⟩,
       ⟨(some 2), .op (.mv), [.r 8], none⟩] (some [2]))
     .ret))))⟩
theorem tr_145 : trFn Go.Proofs.Tryz.prog h_145 Go.Proofs.Tryz.f145 = some ir_145 := by kernel_rfl
theorem walk_145 {args : List RV} {S : Mem} {Q : RV → Mem → Prop} (hS : S.loc = []) (ha : args.length ≤ 9) (h : fnF Go.Proofs.Tryz.prog ir_145 args S Q) : SC Go.Proofs.Tryz.prog 145 args S Q := SC.walk mix Go.Proofs.Tryz.func145 tr_145 hS ha h
/- slices.Clone[[]string,string] -/
def h_146 : FHint := hn [] [5] [7] [(0, [0]), (1, [0, 4]), (2, [2]), (3, [2])] []
def ir_146 : IFun := ⟨8, [.t 2],
 (.seq
  (.ops [
    ⟨(some 2), .op (.mv), [.k (.nsl true)], none⟩] (some [0]))
  (.seq
   (.seq
    (.ops [
      ⟨(some 3), .op (.mv), [.r 0], none⟩,
      ⟨(some 4), .op (.bin .eql .sl), [.r 3, .k (.nsl true)], none⟩] (some [0, 4]))
    (.cond (.r 4)
     (.seq
      (.ops [
        ⟨(some 2), .op (.mv), [.k (.nsl true)], none⟩] (some [2]))
      .ret)
     .skip))
   (.seq
    (.ops [
      ⟨(some 5), .op (.x (.bsl0)), [], none⟩,
      ⟨(some 6), .op (.mv), [.r 0], none⟩,
      ⟨(some 7), .op (.y (.appg 1 9 16)), [.r 5, .r 6], none⟩,
      ⟨(some 2), .op (.mv), [.r 7], none⟩] (some [2]))
    .ret)))⟩
theorem tr_146 : trFn Go.Proofs.Tryz.prog h_146 Go.Proofs.Tryz.f146 = some ir_146 := by kernel_rfl
theorem walk_146 {args : List RV} {S : Mem} {Q : RV → Mem → Prop} (hS : S.loc = []) (ha : args.length ≤ 8) (h : fnF Go.Proofs.Tryz.prog ir_146 args S Q) : SC Go.Proofs.Tryz.prog 146 args S Q := SC.walk mix Go.Proofs.Tryz.func146 tr_146 hS ha h
/- slices.Compact[[]string,string] -/
def h_203 : FHint := hn [] [] [] [(0, [0]), (1, [0, 8]), (2, [2]), (3, [0, 3]), (4, [0, 3, 13]), (6, [0, 3, 25]), (7, [0, 3, 4]), (8, [0, 3, 4, 5]), (9, [0, 3, 4, 5, 32]), (11, [0, 3, 4, 5, 44]), (12, [0, 3, 4, 5]), (13, [0, 3, 4, 5]), (10, [0, 3, 4, 5]), (14, [0, 3]), (15, [2]), (5, [0, 3]), (16, [2])] [(4, [0, 3]), (9, [0, 3, 4, 5])]
def ir_203_l0 : IR :=
 (.seq
  (.seq
   (.ops [
     ⟨(some 29), .op (.mv), [.r 5], none⟩,
     ⟨(some 30), .op (.mv), [.r 4], none⟩,
     ⟨(some 31), .op (.lenl), [.r 30], none⟩,
     ⟨(some 32), .op (.bin .lss .num), [.r 29, .r 31], none⟩] (some [0, 3, 4, 5, 32]))
   (.cond (.r 32)
    .skip
    (.exit 2)))
  (.seq
   (.block 3
    (.seq
     (.opsD [
       ⟨(some 35), .op (.mv), [.r 4], none⟩,
       ⟨(some 36), .op (.mv), [.r 5], none⟩,
       ⟨(some 37), .op (.ia 1), [.r 35, .r 36], none⟩,
       ⟨(some 38), .op (.ld none), [.r 37], none⟩,
       ⟨(some 39), .op (.mv), [.r 4], none⟩,
       ⟨(some 40), .op (.mv), [.r 5], none⟩,
       ⟨(some 41), .op (.bin .sub .num), [.r 40, .k (.p (.int .i64 1))], none⟩,
       ⟨(some 42), .op (.ia 1), [.r 39, .r 41], none⟩,
       ⟨(some 43), .op (.ld none), [.r 42], none⟩,
       ⟨(some 44), .op (.bin .neq .num), [.r 38, .r 43], none⟩] [] (some [0, 3, 4, 5, 44]))
     (.cond (.r 44)
      (.seq
       (.ops [
         ⟨(some 45), .op (.mv), [.r 0], none⟩,
         ⟨(some 46), .op (.mv), [.r 3], none⟩,
         ⟨(some 47), .op (.mv), [.r 4], none⟩,
         ⟨(some 48), .op (.mv), [.r 5], none⟩,
         ⟨(some 49), .op (.ia 1), [.r 47, .r 48], none⟩,
         ⟨(some 50), .op (.ld none), [.r 49], none⟩,
         ⟨(some 51), .op (.ia 1), [.r 45, .r 46], none⟩,
         ⟨none, .op (.st 1), [.r 51, .r 50], none⟩] (some [0, 3, 4, 5]))
       (.ops [
         ⟨(some 52), .op (.mv), [.r 3], none⟩,
         ⟨(some 53), .op (.bin .add .num), [.r 52, .k (.p (.int .i64 1))], none⟩,
         ⟨(some 3), .op (.mv), [.r 53], none⟩] (some [0, 3, 4, 5])))
      .skip)))
   (.ops [
     ⟨(some 33), .op (.mv), [.r 5], none⟩,
     ⟨(some 34), .op (.bin .add .num), [.r 33, .k (.p (.int .i64 1))], none⟩,
     ⟨(some 5), .op (.mv), [.r 34], none⟩] (some [0, 3, 4, 5]))))
def ir_203_l1 : IR :=
 (.seq
  (.seq
   (.ops [
     ⟨(some 10), .op (.mv), [.r 3], none⟩,
     ⟨(some 11), .op (.mv), [.r 0], none⟩,
     ⟨(some 12), .op (.lenl), [.r 11], none⟩,
     ⟨(some 13), .op (.bin .lss .num), [.r 10, .r 12], none⟩] (some [0, 3, 13]))
   (.cond (.r 13)
    .skip
    (.exit 0)))
  (.seq
   (.block 1
    (.seq
     (.opsD [
       ⟨(some 16), .op (.mv), [.r 0], none⟩,
       ⟨(some 17), .op (.mv), [.r 3], none⟩,
       ⟨(some 18), .op (.ia 1), [.r 16, .r 17], none⟩,
       ⟨(some 19), .op (.ld none), [.r 18], none⟩,
       ⟨(some 20), .op (.mv), [.r 0], none⟩,
       ⟨(some 21), .op (.mv), [.r 3], none⟩,
       ⟨(some 22), .op (.bin .sub .num), [.r 21, .k (.p (.int .i64 1))], none⟩,
       ⟨(some 23), .op (.ia 1), [.r 20, .r 22], none⟩,
       ⟨(some 24), .op (.ld none), [.r 23], none⟩,
       ⟨(some 25), .op (.bin .eql .num), [.r 19, .r 24], none⟩] [] (some [0, 3, 25]))
     (.cond (.r 25)
      (.seq
       (.ops [
         ⟨(some 26), .op (.mv), [.r 0], none⟩,
         ⟨(some 27), .op (.mv), [.r 3], none⟩,
         ⟨(some 28), .op (.sll 1 true false), [.r 26, .r 27], none⟩,
         ⟨(some 4), .op (.mv), [.r 28], none⟩] (some [0, 3, 4]))
       (.seq
        (.seq
         (.ops [
           ⟨(some 5), .op (.mv), [.k (.p (.int .i64 1))], none⟩] (some [0, 3, 4, 5]))
         (.block 2
          (.loop (some [0, 3, 4, 5]) ir_203_l0)))
        (.seq
         (.ops [
           ⟨(some 54), .op (.mv), [.r 0], none⟩,
           ⟨(some 55), .op (.mv), [.r 3], none⟩,
           ⟨(some 56), .op (.sll 1 true false), [.r 54, .r 55], none⟩,
           ⟨none, .op (.y (.clr 1 [(.p (.str []))])), [.r 56], none⟩] (some [0, 3]))
         (.seq
          (.ops [
            ⟨(some 57), .op (.mv), [.r 0], none⟩,
            ⟨(some 58), .op (.mv), [.r 3], none⟩,
            ⟨(some 59), .op (.sll 1 false true), [.r 57, .r 58], none⟩,
            ⟨(some 2), .op (.mv), [.r 59], none⟩] (some [2]))
          .ret))))
      .skip)))
   (.ops [
     ⟨(some 14), .op (.mv), [.r 3], none⟩,
     ⟨(some 15), .op (.bin .add .num), [.r 14, .k (.p (.int .i64 1))], none⟩,
     ⟨(some 3), .op (.mv), [.r 15], none⟩] (some [0, 3]))))
def ir_203 : IFun := ⟨61, [.t 2],
 (.seq
  (.ops [
    ⟨(some 2), .op (.mv), [.k (.nsl true)], none⟩] (some [0]))
  (.seq
   (.seq
    (.ops [
      ⟨(some 6), .op (.mv), [.r 0], none⟩,
      ⟨(some 7), .op (.lenl), [.r 6], none⟩,
      ⟨(some 8), .op (.bin .lss .num), [.r 7, .k (.p (.int .i64 2))], none⟩] (some [0, 8]))
    (.cond (.r 8)
     (.seq
      (.ops [
        ⟨(some 9), .op (.mv), [.r 0], none⟩,
        ⟨(some 2), .op (.mv), [.r 9], none⟩] (some [2]))
      .ret)
     .skip))
   (.seq
    (.seq
     (.ops [
       ⟨(some 3), .op (.mv), [.k (.p (.int .i64 1))], none⟩] (some [0, 3]))
     (.block 0
      (.loop (some [0, 3]) ir_203_l1)))
    (.seq
     (.ops [
       ⟨(some 60), .op (.mv), [.r 0], none⟩,
       ⟨(some 2), .op (.mv), [.r 60], none⟩] (some [2]))
     .ret))))⟩
theorem tr_203 : trFn Go.Proofs.Tryz.prog h_203 Go.Proofs.Tryz.f203 = some ir_203 := by kernel_rfl
theorem walk_203 {args : List RV} {S : Mem} {Q : RV → Mem → Prop} (hS : S.loc = []) (ha : args.length ≤ 61) (h : fnF Go.Proofs.Tryz.prog ir_203 args S Q) : SC Go.Proofs.Tryz.prog 203 args S Q := SC.walk mix Go.Proofs.Tryz.func203 tr_203 hS ha h
/- slices.DeleteFunc[[]string,string] -/
def h_60 : FHint := hn [] [] [] [(0, [0, 1]), (1, [0, 1, 5]), (2, [0, 1, 5, 12]), (3, [4]), (4, [0, 1, 5, 6]), (5, [0, 1, 5, 6, 19]), (7, [0, 1, 5, 6, 7]), (8, [0, 1, 5, 6, 7, 29]), (9, [0, 1, 5, 6]), (10, [0, 1, 5, 6]), (6, [0, 1, 5, 6]), (11, [0, 5]), (12, [4])] [(5, [0, 1, 5, 6])]
def ir_60_l0 : IR :=
 (.seq
  (.seq
   (.ops [
     ⟨(some 16), .op (.mv), [.r 6], none⟩,
     ⟨(some 17), .op (.mv), [.r 0], none⟩,
     ⟨(some 18), .op (.lenl), [.r 17], none⟩,
     ⟨(some 19), .op (.bin .lss .num), [.r 16, .r 18], none⟩] (some [0, 1, 5, 6, 19]))
   (.cond (.r 19)
    .skip
    (.exit 0)))
  (.seq
   (.block 1
    (.seq
     (.ops [
       ⟨(some 22), .op (.mv), [.r 0], none⟩,
       ⟨(some 23), .op (.mv), [.r 6], none⟩,
       ⟨(some 24), .op (.ia 1), [.r 22, .r 23], none⟩,
       ⟨(some 25), .op (.ld none), [.r 24], none⟩,
       ⟨(some 7), .op (.mv), [.r 25], none⟩] (some [0, 1, 5, 6, 7]))
     (.seq
      (.ops [
        ⟨(some 26), .op (.mv), [.r 1], none⟩,
        ⟨(some 27), .op (.mv), [.r 7], none⟩,
        ⟨(some 28), .callv, [.r 26, .r 27], none⟩,
        ⟨(some 29), .op (.un .not), [.r 28], none⟩] (some [0, 1, 5, 6, 7, 29]))
      (.cond (.r 29)
       (.seq
        (.ops [
          ⟨(some 30), .op (.mv), [.r 0], none⟩,
          ⟨(some 31), .op (.mv), [.r 5], none⟩,
          ⟨(some 32), .op (.mv), [.r 7], none⟩,
          ⟨(some 33), .op (.ia 1), [.r 30, .r 31], none⟩,
          ⟨none, .op (.st 1), [.r 33, .r 32], none⟩] (some [0, 1, 5, 6]))
        (.ops [
          ⟨(some 34), .op (.mv), [.r 5], none⟩,
          ⟨(some 35), .op (.bin .add .num), [.r 34, .k (.p (.int .i64 1))], none⟩,
          ⟨(some 5), .op (.mv), [.r 35], none⟩] (some [0, 1, 5, 6])))
       .skip))))
   (.ops [
     ⟨(some 20), .op (.mv), [.r 6], none⟩,
     ⟨(some 21), .op (.bin .add .num), [.r 20, .k (.p (.int .i64 1))], none⟩,
     ⟨(some 6), .op (.mv), [.r 21], none⟩] (some [0, 1, 5, 6]))))
def ir_60 : IFun := ⟨42, [.t 4],
 (.seq
  (.ops [
    ⟨(some 4), .op (.mv), [.k (.nsl true)], none⟩] (some [0, 1]))
  (.seq
   (.ops [
     ⟨(some 8), .op (.mv), [.r 0], none⟩,
     ⟨(some 9), .op (.mv), [.r 1], none⟩,
     ⟨(some 10), .call 118, [.r 8, .r 9], none⟩,
     ⟨(some 5), .op (.mv), [.r 10], none⟩] (some [0, 1, 5]))
   (.seq
    (.seq
     (.ops [
       ⟨(some 11), .op (.mv), [.r 5], none⟩,
       ⟨(some 12), .op (.bin .eql .num), [.r 11, .k (.p (.int .i64 (-1)))], none⟩] (some [0, 1, 5, 12]))
     (.cond (.r 12)
      (.seq
       (.ops [
         ⟨(some 13), .op (.mv), [.r 0], none⟩,
         ⟨(some 4), .op (.mv), [.r 13], none⟩] (some [4]))
       .ret)
      .skip))
    (.seq
     (.seq
      (.ops [
        ⟨(some 14), .op (.mv), [.r 5], none⟩,
        ⟨(some 15), .op (.bin .add .num), [.r 14, .k (.p (.int .i64 1))], none⟩,
        ⟨(some 6), .op (.mv), [.r 15], none⟩] (some [0, 1, 5, 6]))
      (.block 0
       (.loop (some [0, 1, 5, 6]) ir_60_l0)))
     (.seq
      (.ops [
        ⟨(some 36), .op (.mv), [.r 0], none⟩,
        ⟨(some 37), .op (.mv), [.r 5], none⟩,
        ⟨(some 38), .op (.sll 1 true false), [.r 36, .r 37], none⟩,
        ⟨none, .op (.y (.clr 1 [(.p (.str []))])), [.r 38], none⟩] (some [0, 5]))
      (.seq
       (.ops [
         ⟨(some 39), .op (.mv), [.r 0], none⟩,
         ⟨(some 40), .op (.mv), [.r 5], none⟩,
         ⟨(some 41), .op (.sll 1 false true), [.r 39, .r 40], none⟩,
         ⟨(some 4), .op (.mv), [.r 41], none⟩] (some [4]))
       .ret))))))⟩
theorem tr_60 : trFn Go.Proofs.Tryz.prog h_60 Go.Proofs.Tryz.f60 = some ir_60 := by kernel_rfl
theorem walk_60 {args : List RV} {S : Mem} {Q : RV → Mem → Prop} (hS : S.loc = []) (ha : args.length ≤ 42) (h : fnF Go.Proofs.Tryz.prog ir_60 args S Q) : SC Go.Proofs.Tryz.prog 60 args S Q := SC.walk mix Go.Proofs.Tryz.func60 tr_60 hS ha h
/- slices.IndexFunc[[]string,string] -/
def h_118 : FHint := hn [] [] [] [(0, [0, 1]), (1, [0, 1, 7, 8]), (2, [0, 1, 7, 8, 9]), (3, [0, 1, 5, 7, 8]), (4, [0, 1, 5, 7, 8, 16]), (5, [4]), (6, [0, 1, 7, 8]), (7, [4])] [(2, [0, 1, 7, 8])]
def ir_118_l0 : IR :=
 (.seq
  (.ops [
    ⟨(some 9), .op (.bin .lss .num), [.r 8, .r 7], none⟩] (some [0, 1, 7, 8, 9]))
  (.seq
   (.cond (.r 9)
    .skip
    (.exit 0))
   (.seq
    (.block 1
     (.seq
      (.ops [
        ⟨(some 10), .op (.mv), [.r 8], none⟩,
        ⟨(some 5), .op (.mv), [.r 10], none⟩] (some [0, 1, 5, 7, 8]))
      (.seq
       (.ops [
         ⟨(some 11), .op (.mv), [.r 1], none⟩,
         ⟨(some 12), .op (.mv), [.r 0], none⟩,
         ⟨(some 13), .op (.mv), [.r 5], none⟩,
         ⟨(some 14), .op (.ia 1), [.r 12, .r 13], none⟩,
         ⟨(some 15), .op (.ld none), [.r 14], none⟩,
         ⟨(some 16), .callv, [.r 11, .r 15], none⟩] (some [0, 1, 5, 7, 8, 16]))
       (.cond (.r 16)
        (.seq
         (.ops [
           ⟨(some 17), .op (.mv), [.r 5], none⟩,
           ⟨(some 4), .op (.mv), [.r 17], none⟩] (some [4]))
         .ret)
        .skip))))
    (.ops [
      ⟨(some 18), .op (.bin .add .num), [.r 8, .k (.p (.int .i64 1))], none⟩,
      ⟨(some 8), .op (.mv), [.r 18], none⟩] (some [0, 1, 7, 8])))))
def ir_118 : IFun := ⟨19, [.t 4],
 (.seq
  (.ops [
    ⟨(some 4), .op (.mv), [.k (.p (.int .i64 0))], none⟩] (some [0, 1]))
  (.seq
   (.seq
    (.ops [
      ⟨(some 6), .op (.mv), [.r 0], none⟩,
      ⟨(some 7), .op (.lenl), [.r 6], none⟩,
      ⟨(some 8), .op (.mv), [.k (.p (.int .i64 0))], none⟩] (some [0, 1, 7, 8]))
    (.block 0
     (.loop (some [0, 1, 7, 8]) ir_118_l0)))
   (.seq
    (.ops [
      ⟨(some 4), .op (.mv), [.k (.p (.int .i64 (-1)))], none⟩] (some [4]))
    .ret)))⟩
theorem tr_118 : trFn Go.Proofs.Tryz.prog h_118 Go.Proofs.Tryz.f118 = some ir_118 := by kernel_rfl
theorem walk_118 {args : List RV} {S : Mem} {Q : RV → Mem → Prop} (hS : S.loc = []) (ha : args.length ≤ 19) (h : fnF Go.Proofs.Tryz.prog ir_118 args S Q) : SC Go.Proofs.Tryz.prog 118 args S Q := SC.walk mix Go.Proofs.Tryz.func118 tr_118 hS ha h
/- slices.ContainsFunc[[]string,string] -/
def h_148 : FHint := hn [] [] [] [(0, [0, 1]), (1, [4])] []
def ir_148 : IFun := ⟨9, [.t 4],
 (.seq
  (.ops [
    ⟨(some 4), .op (.mv), [.k (.p (.bool false))], none⟩] (some [0, 1]))
  (.seq
   (.ops [
     ⟨(some 5), .op (.mv), [.r 0], none⟩,
     ⟨(some 6), .op (.mv), [.r 1], none⟩,
     ⟨(some 7), .call 118, [.r 5, .r 6], none⟩,
     ⟨(some 8), .op (.bin .geq .num), [.r 7, .k (.p (.int .i64 0))], none⟩,
     ⟨(some 4), .op (.mv), [.r 8], none⟩] (some [4]))
   .ret))⟩
theorem tr_148 : trFn Go.Proofs.Tryz.prog h_148 Go.Proofs.Tryz.f148 = some ir_148 := by kernel_rfl
theorem walk_148 {args : List RV} {S : Mem} {Q : RV → Mem → Prop} (hS : S.loc = []) (ha : args.length ≤ 9) (h : fnF Go.Proofs.Tryz.prog ir_148 args S Q) : SC Go.Proofs.Tryz.prog 148 args S Q := SC.walk mix Go.Proofs.Tryz.func148 tr_148 hS ha h
end Go.Ag
/- The functions that are run: one more table. -/
namespace Go.Ag
open Go
noncomputable def tabS : BT := (.node 246 (trFn Go.Proofs.Tryz.prog (hn [] [] [] [(0, [0, 1]), (1, [4])] []) Go.Proofs.Tryz.f246)
 (.node 148 (trFn Go.Proofs.Tryz.prog (hn [] [] [] [(0, [0, 1]), (1, [4])] []) Go.Proofs.Tryz.f148)
 (.node 143 (trFn Go.Proofs.Tryz.prog (hn [] [] [] [(0, [0, 1]), (1, [4, 5])] []) Go.Proofs.Tryz.f143)
 (.node 88 (trFn Go.Proofs.Tryz.prog (hn [1] [] [] [(0, [1]), (1, [1]), (2, [2])] []) Go.Proofs.Tryz.f88)
 (.node 87 (trFn Go.Proofs.Tryz.prog (hn [] [] [] [(0, [0, 1]), (1, [0, 1, 9]), (2, [4]), (3, [1, 5, 6]), (4, [4])] []) Go.Proofs.Tryz.f87)
 (.node 60 (trFn Go.Proofs.Tryz.prog (hn [] [] [] [(0, [0, 1]), (1, [0, 1, 5]), (2, [0, 1, 5, 12]), (3, [4]), (4, [0, 1, 5, 6]), (5, [0, 1, 5, 6, 19]), (7, [0, 1, 5, 6, 7]), (8, [0, 1, 5, 6, 7, 29]), (9, [0, 1, 5, 6]), (10, [0, 1, 5, 6]), (6, [0, 1, 5, 6]), (11, [0, 5]), (12, [4])] [(5, [0, 1, 5, 6])]) Go.Proofs.Tryz.f60)
 .leaf .leaf) .leaf) (.node 118 (trFn Go.Proofs.Tryz.prog (hn [] [] [] [(0, [0, 1]), (1, [0, 1, 7, 8]), (2, [0, 1, 7, 8, 9]), (3, [0, 1, 5, 7, 8]), (4, [0, 1, 5, 7, 8, 16]), (5, [4]), (6, [0, 1, 7, 8]), (7, [4])] [(2, [0, 1, 7, 8])]) Go.Proofs.Tryz.f118)
 .leaf .leaf)) (.node 146 (trFn Go.Proofs.Tryz.prog (hn [] [5] [7] [(0, [0]), (1, [0, 4]), (2, [2]), (3, [2])] []) Go.Proofs.Tryz.f146)
 (.node 145 (trFn Go.Proofs.Tryz.prog (hn [] [] [] [(0, [0]), (1, [0]), (2, [0]), (3, [2])] []) Go.Proofs.Tryz.f145)
 (.node 144 (trFn Go.Proofs.Tryz.prog (hn [] [] [] [(0, [0, 1]), (1, [4])] []) Go.Proofs.Tryz.f144)
 .leaf .leaf) .leaf) (.node 147 (trFn Go.Proofs.Tryz.prog (hn [2] [] [] [(0, [1, 2]), (1, [3])] []) Go.Proofs.Tryz.f147)
 .leaf .leaf))) (.node 202 (trFn Go.Proofs.Tryz.prog (hn [] [] [] [(0, [0, 2]), (1, [])] []) Go.Proofs.Tryz.f202)
 (.node 200 (trFn Go.Proofs.Tryz.prog (hn [] [] [] [(0, [0, 1]), (1, [0, 1, 9]), (2, [4, 5]), (3, [4, 5])] []) Go.Proofs.Tryz.f200)
 (.node 164 (trFn Go.Proofs.Tryz.prog (hn [] [] [] [(0, [0]), (1, [2]), (2, [2])] []) Go.Proofs.Tryz.f164)
 (.node 149 (trFn Go.Proofs.Tryz.prog (hn [] [] [] [(0, [0, 1]), (1, [3])] []) Go.Proofs.Tryz.f149)
 .leaf .leaf) .leaf) (.node 201 (trFn Go.Proofs.Tryz.prog (hn [] [] [] [(0, [0, 1]), (1, [4])] []) Go.Proofs.Tryz.f201)
 .leaf .leaf)) (.node 217 (trFn Go.Proofs.Tryz.prog (hn [] [] [] [(0, [0, 2]), (1, [0, 2, 4]), (2, [0]), (3, [0, 2]), (4, [0, 2, 8]), (5, [0, 2]), (6, [0, 2]), (7, [2])] []) Go.Proofs.Tryz.f217)
 (.node 203 (trFn Go.Proofs.Tryz.prog (hn [] [] [] [(0, [0]), (1, [0, 8]), (2, [2]), (3, [0, 3]), (4, [0, 3, 13]), (6, [0, 3, 25]), (7, [0, 3, 4]), (8, [0, 3, 4, 5]), (9, [0, 3, 4, 5, 32]), (11, [0, 3, 4, 5, 44]), (12, [0, 3, 4, 5]), (13, [0, 3, 4, 5]), (10, [0, 3, 4, 5]), (14, [0, 3]), (15, [2]), (5, [0, 3]), (16, [2])] [(4, [0, 3]), (9, [0, 3, 4, 5])]) Go.Proofs.Tryz.f203)
 .leaf .leaf) (.node 218 (trFn Go.Proofs.Tryz.prog (hn [] [] [] [(0, [0, 2]), (1, [0, 2, 4]), (2, [0]), (3, [0, 2]), (4, [0, 2, 8]), (5, [0, 2]), (6, [0, 2]), (7, [0, 2, 14]), (8, [0, 2]), (9, [0, 2]), (10, [2])] []) Go.Proofs.Tryz.f218)
 .leaf .leaf)))) (.node 288 (trFn Go.Proofs.Tryz.prog (hn [] [] [] [(0, [0, 1, 2]), (1, [0, 1, 2, 7]), (2, [0, 1, 2, 7, 8]), (3, [0, 1, 2, 7, 8, 14]), (5, [0, 1, 2, 7, 8, 32]), (6, [0, 1, 2, 7, 8]), (7, [0, 1, 2, 7, 8, 37]), (8, [6]), (9, [0, 1, 2, 7, 8, 41]), (10, [6]), (11, [0, 1, 2, 7, 8]), (12, [0, 1, 2, 7, 8, 61]), (13, [0, 1, 2, 7, 8, 9]), (14, [0, 1, 2, 7, 8, 9, 65]), (16, [0, 1, 2, 7, 8, 9, 78]), (17, [0, 1, 2, 7, 8, 9]), (15, [0, 1, 2, 7, 8, 9]), (18, [0, 1, 2, 7, 8, 98]), (19, [0, 1, 2, 7, 8, 10]), (20, [0, 1, 2, 7, 8, 10, 103]), (22, [0, 1, 2, 7, 8, 10, 116]), (23, [0, 1, 2, 7, 8, 10]), (21, [0, 1, 2, 7, 8, 10]), (4, [0, 1, 2, 7, 8]), (24, [6])] [(3, [0, 1, 2, 7, 8]), (5, [0, 1, 2, 7, 8]), (14, [0, 1, 2, 7, 8, 9]), (20, [0, 1, 2, 7, 8, 10])]) Go.Proofs.Tryz.f288)
 (.node 284 (trFn Go.Proofs.Tryz.prog (hn [] [] [] [(0, [0, 1, 2, 6]), (1, [0, 1, 2, 6, 7]), (2, [0, 6, 7, 8]), (3, [0, 6, 7, 8, 9]), (4, [0, 6, 7, 8, 9, 19]), (6, [0, 6, 7, 8, 9]), (5, [0, 6, 7, 8, 9]), (7, [0, 6, 7, 10]), (8, [0, 6, 7, 10, 30]), (10, [0, 6, 7, 10]), (11, [0, 6, 7, 10]), (9, [0, 6, 7, 10])] [(4, [0, 6, 7, 8, 9]), (8, [0, 6, 7, 10])]) Go.Proofs.Tryz.f284)
 (.node 251 (trFn Go.Proofs.Tryz.prog (hn [] [] [] [(0, [0]), (1, [0]), (2, [0]), (3, [0]), (4, [2])] []) Go.Proofs.Tryz.f251)
 (.node 250 (trFn Go.Proofs.Tryz.prog (hn [] [] [] [(0, [0]), (1, [2])] []) Go.Proofs.Tryz.f250)
 (.node 247 (trFn Go.Proofs.Tryz.prog (hn [] [] [] [(0, [0, 1, 2, 3, 8]), (1, [0, 1, 2, 3, 8, 9]), (2, [0, 1, 2, 3, 8, 9, 10]), (3, [0, 1, 2, 3, 8, 9, 10, 23]), (4, []), (5, [0, 1, 2, 3, 8, 9, 10, 29]), (6, []), (7, [0, 1, 2, 3, 8, 9, 10, 35]), (8, [0, 1, 2, 3, 8, 9, 10]), (9, [0, 1, 2, 3, 8, 9, 10]), (10, [0, 1, 2, 3, 8, 9, 10, 11, 12]), (11, [0, 1, 2, 3, 8, 9, 10, 11, 12, 50]), (12, [0, 1, 2, 3, 8, 9, 10, 11]), (13, [0, 1, 2, 3, 8, 9, 10, 11]), (14, [0, 1, 2, 3, 8, 9, 10, 11, 12]), (15, [0, 1, 2, 3, 8, 9, 10, 11, 68]), (16, [0, 1, 2, 3, 8, 9, 10, 11, 72]), (17, [0, 1, 2, 3, 8, 9, 10, 11, 87]), (18, [0, 2, 3, 8, 9, 13]), (19, [0, 1, 2, 3, 8, 9]), (20, [0, 1, 2, 3, 10, 14, 15]), (21, [0, 1, 2, 3, 9, 10, 14]), (22, [0, 1, 2, 3, 9, 10, 14, 16, 17]), (23, [0, 1, 2, 3, 9, 14, 16, 17, 18]), (24, [0, 1, 2, 3, 9, 14, 16, 17, 18, 113]), (28, [0, 1, 2, 3, 8, 9, 14]), (29, [0, 1, 3, 8, 9, 14]), (30, [0, 1, 2, 3, 8, 9]), (25, [0, 1, 2, 3, 8, 9, 14]), (26, [0, 2, 3, 8, 9, 14]), (27, [0, 1, 2, 3, 8, 9])] [(2, [0, 1, 2, 3, 8, 9])]) Go.Proofs.Tryz.f247)
 .leaf .leaf) .leaf) (.node 283 (trFn Go.Proofs.Tryz.prog (hn [] [] [] [(0, [0, 1, 2, 6]), (1, [0, 1, 2, 6, 12]), (3, [0, 1, 2, 6, 7]), (4, [0, 1, 2, 6, 7, 30]), (6, [0, 1, 2, 6, 7]), (5, [0, 1, 2, 6, 7]), (2, [0, 1, 2, 6])] [(1, [0, 1, 2, 6]), (4, [0, 1, 2, 6, 7])]) Go.Proofs.Tryz.f283)
 .leaf .leaf)) (.node 286 (trFn Go.Proofs.Tryz.prog (hn [9] [] [] [(0, [0, 1, 2]), (1, [0, 1, 8]), (2, [0, 1, 8, 9]), (3, [0, 1, 8, 9, 10]), (4, [0, 1, 8, 9, 10, 11]), (5, [0, 8, 9, 10, 11, 12]), (6, [0, 8, 9, 10, 11, 12, 32]), (7, [0, 9, 10, 11, 12, 34]), (8, [0, 9, 10, 11, 12]), (9, [0, 9, 10, 11, 12]), (10, [0, 9, 10, 11, 12]), (11, [9, 11]), (12, [11, 49]), (14, [11, 49, 51]), (16, [11, 54]), (13, [6, 7]), (17, [6, 7]), (15, [6, 7])] []) Go.Proofs.Tryz.f286)
 (.node 285 (trFn Go.Proofs.Tryz.prog (hn [7] [] [] [(0, [0, 1, 6]), (1, [0, 1, 6, 15]), (2, [0, 1, 6, 7]), (3, [0, 1, 6, 7, 8]), (4, [0, 1, 6, 7, 8, 9]), (5, [0, 1, 6, 7, 8, 9, 33]), (7, [0, 1, 6, 7, 8, 9, 10]), (8, [0, 1, 6, 7, 8, 9, 10, 43]), (9, [0, 1, 6, 7, 8, 9, 10]), (10, [0, 1, 6, 7, 8, 9]), (6, [0, 1, 6, 7, 8, 9])] [(5, [0, 1, 6, 7, 8, 9])]) Go.Proofs.Tryz.f285)
 .leaf .leaf) (.node 287 (trFn Go.Proofs.Tryz.prog (hn [] [] [] [(0, [0, 2, 6]), (1, [0, 6, 7]), (2, [0, 6, 7, 13]), (3, [0, 6, 7]), (4, [0, 6, 7]), (5, [0, 6, 7])] [(2, [0, 6, 7])]) Go.Proofs.Tryz.f287)
 .leaf .leaf))) (.node 314 (trFn Go.Proofs.Tryz.prog (hn [] [] [] [(0, [0, 1, 2]), (1, [6])] []) Go.Proofs.Tryz.f314)
 (.node 291 (trFn Go.Proofs.Tryz.prog (hn [] [] [] [(0, [0, 1, 2, 3]), (1, [0, 1, 2]), (2, [0, 1, 10, 11]), (3, [0, 1, 10, 11, 43]), (4, [0, 1, 10, 11]), (5, [0, 1, 10, 11, 60]), (6, [0, 1, 10, 11]), (7, [0, 1, 10, 11, 65]), (8, [11]), (9, [8, 9]), (10, [0, 1, 10, 11]), (11, [0, 1, 10, 11]), (12, [0, 1, 10, 11]), (13, [0, 1, 10, 11, 112]), (14, [0, 1, 10, 11]), (15, [0, 1, 10, 11, 129]), (16, [0, 1, 10, 11]), (17, [0, 1, 10, 11, 134]), (18, [0, 1, 10, 11]), (19, [0, 1, 10, 11]), (20, [0, 1, 10, 11]), (21, [11]), (22, [8, 9])] [(3, [0, 1, 10, 11]), (5, [0, 1, 10, 11]), (13, [0, 1, 10, 11]), (15, [0, 1, 10, 11])]) Go.Proofs.Tryz.f291)
 (.node 290 (trFn Go.Proofs.Tryz.prog (hn [] [] [] [(0, [0, 1, 2, 3]), (1, [0, 1, 2]), (2, [0, 1, 9, 10]), (3, [0, 1, 9, 10, 43]), (4, [0, 1, 9, 10]), (5, [0, 1, 9, 10, 59]), (6, [0, 1, 9, 10]), (7, [0, 1, 9, 10, 64]), (8, [0, 1, 9, 10]), (9, [0, 1, 9, 10]), (10, [0, 1, 9, 10]), (11, [8])] [(3, [0, 1, 9, 10]), (5, [0, 1, 9, 10])]) Go.Proofs.Tryz.f290)
 (.node 289 (trFn Go.Proofs.Tryz.prog (hn [] [] [] [(0, [0, 1]), (1, [4])] []) Go.Proofs.Tryz.f289)
 .leaf .leaf) .leaf) (.node 313 (trFn Go.Proofs.Tryz.prog (hn [] [] [] [(0, [0, 2, 3, 8]), (1, [0, 2, 3, 8, 9]), (2, [0, 2, 3, 8, 9, 16]), (3, [0, 2, 3, 8, 9, 36]), (4, [0, 2, 3, 8, 9]), (5, [0, 2, 3, 8, 9, 52]), (6, [0, 2, 3, 9]), (7, [0, 2, 3, 8])] [(1, [0, 2, 3, 8])]) Go.Proofs.Tryz.f313)
 .leaf .leaf)) (.node 316 (trFn Go.Proofs.Tryz.prog (hn [] [] [] [(0, [0]), (1, [2])] []) Go.Proofs.Tryz.f316)
 (.node 315 (trFn Go.Proofs.Tryz.prog (hn [] [] [] [(0, [0, 1, 2, 3, 4]), (1, [0, 1, 2, 3, 4]), (2, [0, 1, 2, 4]), (3, [2]), (4, [10])] []) Go.Proofs.Tryz.f315)
 .leaf .leaf) (.node 324 (trFn Go.Proofs.Tryz.prog (hn [] [] [] [(0, [0, 1, 2, 3]), (1, [1, 2, 3, 18]), (2, [1, 2]), (3, [8, 9]), (4, [8, 9])] []) Go.Proofs.Tryz.f324)
 .leaf .leaf)))))
theorem tabS_ok : tabS.Ok Go.Proofs.Tryz.prog := by unfold tabS; exact (BT.nd Go.Proofs.Tryz.func246 (BT.nd Go.Proofs.Tryz.func148 (BT.nd Go.Proofs.Tryz.func143 (BT.nd Go.Proofs.Tryz.func88 (BT.nd Go.Proofs.Tryz.func87 (BT.nd Go.Proofs.Tryz.func60 BT.lf BT.lf) BT.lf) (BT.nd Go.Proofs.Tryz.func118 BT.lf BT.lf)) (BT.nd Go.Proofs.Tryz.func146 (BT.nd Go.Proofs.Tryz.func145 (BT.nd Go.Proofs.Tryz.func144 BT.lf BT.lf) BT.lf) (BT.nd Go.Proofs.Tryz.func147 BT.lf BT.lf))) (BT.nd Go.Proofs.Tryz.func202 (BT.nd Go.Proofs.Tryz.func200 (BT.nd Go.Proofs.Tryz.func164 (BT.nd Go.Proofs.Tryz.func149 BT.lf BT.lf) BT.lf) (BT.nd Go.Proofs.Tryz.func201 BT.lf BT.lf)) (BT.nd Go.Proofs.Tryz.func217 (BT.nd Go.Proofs.Tryz.func203 BT.lf BT.lf) (BT.nd Go.Proofs.Tryz.func218 BT.lf BT.lf)))) (BT.nd Go.Proofs.Tryz.func288 (BT.nd Go.Proofs.Tryz.func284 (BT.nd Go.Proofs.Tryz.func251 (BT.nd Go.Proofs.Tryz.func250 (BT.nd Go.Proofs.Tryz.func247 BT.lf BT.lf) BT.lf) (BT.nd Go.Proofs.Tryz.func283 BT.lf BT.lf)) (BT.nd Go.Proofs.Tryz.func286 (BT.nd Go.Proofs.Tryz.func285 BT.lf BT.lf) (BT.nd Go.Proofs.Tryz.func287 BT.lf BT.lf))) (BT.nd Go.Proofs.Tryz.func314 (BT.nd Go.Proofs.Tryz.func291 (BT.nd Go.Proofs.Tryz.func290 (BT.nd Go.Proofs.Tryz.func289 BT.lf BT.lf) BT.lf) (BT.nd Go.Proofs.Tryz.func313 BT.lf BT.lf)) (BT.nd Go.Proofs.Tryz.func316 (BT.nd Go.Proofs.Tryz.func315 BT.lf BT.lf) (BT.nd Go.Proofs.Tryz.func324 BT.lf BT.lf)))))
end Go.Ag
/- ScopesAgree: what covers what, as the program says it. -/
namespace Go.Ag
open Go
set_option linter.unusedVariables false
set_option linter.unusedSimpArgs false
set_option maxRecDepth 100000

theorem pf_evS {f : FuncId} {args : List PV} {rv : RV} {r : PV} (h : evFn tabS.find (fun _ _ _ => none) 200 20 f (args.map .p) mem0 = some (rv, mem0)) (hr : rv.still mem0 = some r) : PFun PG f args r := by
  refine (evFn_sound mix (BT.ok tabS tabS_ok) callOk_none 200 20 f _ mem0 _ _ rfl h).mono ?_
  rintro r' S'' ⟨rfl, rfl⟩
  exact hr
theorem cov_pf (a b : Txt) (ha : a ∈ ten) (hb : b ∈ ten) : PFun PG 87 [.str a, .str b] (.bool (cov a b)) := by
  simp only [ten, nine, List.mem_cons, List.not_mem_nil, or_false] at ha hb
  rcases ha with rfl | rfl | rfl | rfl | rfl | rfl | rfl | rfl | rfl | rfl
  all_goals
    rcases hb with rfl | rfl | rfl | rfl | rfl | rfl | rfl | rfl | rfl | rfl
    all_goals exact pf_evS (rv := .p (.bool (cov _ _))) (by kernel_rfl) rfl
theorem isScope10_pf (s : Txt) (h : s ∈ ten) : PFun PG 150 [.str s] (.bool true) := by
  rcases List.mem_cons.1 h with rfl | h
  · exact pf_evP (rv := .p (.bool true)) (by kernel_rfl) rfl
  · exact isScope_pf s (List.mem_cons_of_mem _ h)
theorem scopes10_pf (sc : List Txt) (h : ∀ s ∈ sc, s ∈ ten) (hl : sc.length ≤ 50) : PFun PG 89 [.sl (strs sc)] (.int .i64 0) := by
  have hlen : ((strs sc).length : Int) = sc.length := by simp
  refine walk_89 rfl (by simp) ?_
  constructor
  refine Cmp.no (by omega) ?_
  constructor
  refine LoopF.of (fun i : Nat => ([(8, .p (.sl (strs sc))), (9, vi (strs sc).length), (10, vi i)], mem0)) (fun i => sc.length - i) (fun i => i ≤ sc.length) 0 (Nat.zero_le _) rfl rfl ?_
  intro i hi
  constructor
  refine ⟨fun h1 => ?_, fun h1 => ?_⟩
  · rw [hlen] at h1
    constructor
    refine Elt.map (by omega) (by omega) fun x hx => ⟨rfl, ?_⟩
    constructor
    refine CallV.of (isScope10_pf x (h x (List.mem_of_getElem? hx))) ?_
    constructor
    refine ⟨by unfold inR; omega, ?_⟩
    exact ⟨i + 1, by omega, by omega, rfl, rfl⟩
  · constructor
    exact ⟨rfl⟩
theorem lists_pf (a b : List Txt) (ha : ∀ s ∈ a, s ∈ ten) (hla : a.length ≤ 50) (hb : ∀ s ∈ b, s ∈ ten) (hlb : b.length ≤ 50) : PFun PG 86 [.sl [.sl (strs a), .sl (strs b)]] (.int .i64 0) := by
  refine walk_86 rfl (by simp) ?_
  constructor
  refine LoopF.of (fun i : Nat => ([(6, .p (.sl [.sl (strs a), .sl (strs b)])), (7, vi 2), (8, vi i)], mem0)) (fun i => 2 - i) (fun i => i ≤ 2) 0 (by omega) rfl rfl ?_
  intro i hi
  rcases (by omega : i = 0 ∨ i = 1 ∨ i = 2) with rfl | rfl | rfl
  · constructor
    refine Cmp.yes (by simp) ?_
    constructor
    refine Elt.mk' (by simp) rfl ⟨rfl, ?_⟩
    constructor
    refine CallV.of (scopes10_pf a ha hla) ?_
    constructor
    refine Cmp.yes rfl ?_
    constructor
    refine ⟨by unfold inR; simp, ?_⟩
    exact ⟨1, by omega, by omega, rfl, rfl⟩
  · constructor
    refine Cmp.yes (by simp) ?_
    constructor
    refine Elt.mk' (by simp) rfl ⟨rfl, ?_⟩
    constructor
    refine CallV.of (scopes10_pf b hb hlb) ?_
    constructor
    refine Cmp.yes rfl ?_
    constructor
    refine ⟨by unfold inR; simp, ?_⟩
    exact ⟨2, by omega, by omega, rfl, rfl⟩
  · constructor
    refine Cmp.no (by simp) ?_
    constructor
    exact ⟨rfl⟩
theorem errs_pf : PFun PG 32 [ints [0, 0, 0, 0, 0, 0, 0, 0]] (.int .i64 0) := by
  refine walk_32 rfl (by simp) ?_
  constructor
  refine LoopF.of (fun i : Nat => ([(5, .p (ints [0, 0, 0, 0, 0, 0, 0, 0])), (6, vi 8), (7, vi i)], mem0)) (fun i => 8 - i) (fun i => i ≤ 8) 0 (by omega) rfl rfl ?_
  intro i hi
  constructor
  refine ⟨fun h1 => ?_, fun h1 => ?_⟩
  · constructor
    refine Elt.map (f := PV.int .i64) (l := [0, 0, 0, 0, 0, 0, 0, 0]) (by omega) (by simp; omega) fun x hx => ⟨rfl, ?_⟩
    have hx0 : x = 0 := by
      have := List.mem_of_getElem? hx
      simpa using this
    constructor
    refine Cmp.yes hx0 ?_
    constructor
    refine ⟨by unfold inR; omega, ?_⟩
    exact ⟨i + 1, by omega, by omega, rfl, rfl⟩
  · constructor
    exact ⟨rfl⟩

/-! ### Rows that are searched -/
theorem ixf_sc (f : FuncId) (c : Nat) (φ : Txt → Bool) (l : List Txt) (m : List Blk) (T : Toks) (hl : l.length ≤ 1000)
    (h : ∀ s ∈ l, SC PG f [.p (.str s), .ptr c 0] ⟨[], m, T⟩ fun r S' => r = vb (φ s) ∧ S' = ⟨[], m, T⟩) :
    SC PG 118 [.p (.sl (strs l)), .fn f [] [.ptr c 0]] ⟨[], m, T⟩ fun r S' => (∃ i, r = vi i ∧ (0 ≤ i ↔ l.any φ = true)) ∧ S' = ⟨[], m, T⟩ := by
  have hlen : ((strs l).length : Int) = l.length := by simp
  refine walk_118 rfl (by simp) ?_
  constructor
  refine LoopF.of (fun i : Nat => ([(0, .p (.sl (strs l))), (1, .fn f [] [.ptr c 0]), (7, vi (strs l).length), (8, vi i)], ⟨[], m, T⟩)) (fun i => l.length - i) (fun i => i ≤ l.length ∧ ∀ s ∈ l.take i, φ s = false) 0 ⟨by omega, by simp⟩ rfl rfl ?_
  rintro i ⟨hi, hφ⟩
  constructor
  refine ⟨fun h1 => ?_, fun h1 => ?_⟩
  · rw [hlen] at h1
    constructor
    refine Elt.map (by omega) (by omega) fun x hx => ⟨rfl, ?_⟩
    have hx : l[i]? = some x := hx
    have hm := List.mem_of_getElem? hx
    have hc := h x hm
    constructor
    refine CallM.of rfl hc ?_
    rintro r S' ⟨rfl, rfl⟩
    cases hp : φ x
    · constructor
      refine ⟨by unfold inR; omega, ?_⟩
      refine ⟨i + 1, ⟨by omega, ?_⟩, by omega, rfl, rfl⟩
      intro s hs
      rw [List.take_add_one, hx] at hs
      rcases List.mem_append.1 hs with hs | hs
      · exact hφ s hs
      · simp at hs; subst hs; exact hp
    · constructor
      exact ⟨⟨i, rfl, fun _ => List.any_eq_true.2 ⟨x, hm, hp⟩, fun _ => by omega⟩, rfl⟩
  · rw [hlen] at h1
    constructor
    refine ⟨⟨-1, rfl, fun h => by omega, fun h => ?_⟩, rfl⟩
    obtain ⟨s, hs, hp⟩ := List.any_eq_true.1 h
    have := hφ s (by rw [List.take_of_length_le (by omega)]; exact hs)
    rw [hp] at this
    cases this
theorem cnt_sc (f : FuncId) (c : Nat) (φ : Txt → Bool) (l : List Txt) (m : List Blk) (T : Toks) (hl : l.length ≤ 1000)
    (h : ∀ s ∈ l, SC PG f [.p (.str s), .ptr c 0] ⟨[], m, T⟩ fun r S' => r = vb (φ s) ∧ S' = ⟨[], m, T⟩) :
    SC PG 148 [.p (.sl (strs l)), .fn f [] [.ptr c 0]] ⟨[], m, T⟩ fun r S' => r = vb (l.any φ) ∧ S' = ⟨[], m, T⟩ := by
  refine walk_148 rfl (by simp) ?_
  constructor
  refine CallM.of rfl (ixf_sc f c φ l m T hl h) ?_
  rintro r S' ⟨⟨i, rfl, hi⟩, rfl⟩
  constructor
  refine ⟨fun h1 => ?_, fun h1 => ?_⟩
  · constructor
    exact ⟨by rw [hi.1 h1], rfl⟩
  · constructor
    exact ⟨by rw [show l.any φ = false from Bool.eq_false_iff.2 fun h => h1 (hi.2 h)], rfl⟩

theorem cl204 (h s : Txt) (hh : h ∈ ten) (hs : s ∈ ten) : SC PG 204 [.p (.str h), .ptr 0 0] ⟨[], [.cells 18 [.p (.str s)]], []⟩ fun r S' => r = vb (cov h s) ∧ S' = ⟨[], [.cells 18 [.p (.str s)]], []⟩ := by
  have hc := cov_pf h s hh hs
  cases hb : cov h s
  all_goals
    rw [hb] at hc
    refine walk_204 rfl (by simp) ?_
    constructor
    refine CallV.of hc ?_
    constructor
    exact ⟨rfl, rfl⟩
theorem cby_pf (l : List Txt) (s : Txt) (hl : ∀ x ∈ l, x ∈ ten) (hs : s ∈ ten) (hlen : l.length ≤ 50) : PFun PG 152 [.sl (strs l), .str s] (.bool (anyCov l s)) := by
  have hc := cnt_sc 204 0 (fun h => cov h s) l [.cells 18 [.p (.str s)]] [] (by omega) (fun x hx => cl204 x s (hl x hx) hs)
  cases hb : anyCov l s
  all_goals
    have hb' : l.any (fun h => cov h s) = _ := hb
    rw [hb'] at hc
    refine walk_152 rfl (by simp) ?_
    constructor
    refine CallM.of rfl hc ?_
    rintro r S' ⟨rfl, rfl⟩
    constructor
    exact ⟨rfl⟩
theorem cl151 (l : List Txt) (s : Txt) (hl : ∀ x ∈ l, x ∈ ten) (hs : s ∈ ten) (hlen : l.length ≤ 50) :
    SC PG 151 [.p (.str s), .ptr 0 0] ⟨[], [.cells 90 [.p (.sl (strs l))]], []⟩ fun r S' => r = vb (!anyCov l s) ∧ S' = ⟨[], [.cells 90 [.p (.sl (strs l))]], []⟩ := by
  have hc := cby_pf l s hl hs hlen
  cases hb : anyCov l s
  all_goals
    rw [hb] at hc
    refine walk_151 rfl (by simp) ?_
    constructor
    refine CallV.of hc ?_
    constructor
    exact ⟨rfl, rfl⟩
theorem allCov_any (a b : List Txt) : b.any (fun s => !anyCov a s) = !allCov a b := by simp [allCov, List.not_all_eq_any_not]
theorem call_pf (a b : List Txt) (ha : ∀ x ∈ a, x ∈ ten) (hla : a.length ≤ 50) (hb : ∀ x ∈ b, x ∈ ten) (hlb : b.length ≤ 50) : PFun PG 90 [.sl (strs a), .sl (strs b)] (.bool (allCov a b)) := by
  have hc := cnt_sc 151 0 (fun s => !anyCov a s) b [.cells 90 [.p (.sl (strs a))]] [] (by omega) (fun x hx => cl151 a x ha (hb x hx) hla)
  rw [allCov_any] at hc
  cases hq : allCov a b
  all_goals
    rw [hq] at hc
    refine walk_90 rfl (by simp) ?_
    constructor
    refine CallM.of rfl hc ?_
    rintro r S' ⟨rfl, rfl⟩
    constructor
    exact ⟨rfl⟩
theorem covers_pf (a b : List Txt) (ha : ∀ x ∈ a, x ∈ ten) (hla : a.length ≤ 50) (hb : ∀ x ∈ b, x ∈ ten) (hlb : b.length ≤ 50) : PFun PG 31 [.sl (strs a), .sl (strs b)] (.tup [.bool (allCov a b), .int .i64 0]) := by
  have hc := call_pf a b ha hla hb hlb
  cases hq : allCov a b
  all_goals
    rw [hq] at hc
    refine walk_31 rfl (by simp) ?_
    constructor
    refine CallV.of (lists_pf a b ha hla hb hlb) ?_
    constructor
    refine Cmp.yes rfl ?_
    constructor
    refine CallV.of hc ?_
    constructor
    exact ⟨rfl⟩
end Go.Ag
/- ScopesAgree: rows that are put in order, from which is deleted. -/
namespace Go.Ag
open Go
set_option linter.unusedVariables false
set_option linter.unusedSimpArgs false
set_option maxRecDepth 100000

/-- A row's block. -/
abbrev rowB (xs : List Txt) : Blk := .cells 19 (pss xs)
theorem clone_sc (xs : List Txt) (hne : xs ≠ []) (hl : xs.length ≤ 1000) (m : List Blk) : SC PG 146 [.p (.sl (strs xs))] ⟨[], m, []⟩ fun r S' => r = .rs m.length 0 xs.length 1 ∧ S' = ⟨[], m ++ [rowB xs], []⟩ := by
  obtain ⟨x, l, rfl⟩ : ∃ x l, xs = x :: l := by cases xs with | nil => exact absurd rfl hne | cons x l => exact ⟨x, l, rfl⟩
  refine walk_146 rfl (by simp) ?_
  constructor
  refine Opr.of (r := .nsl false) rfl ?_
  constructor
  refine Opr.of (app_new (bytes := 16) (xs := x :: l) (by simp) (by simp only [lim]; omega)) ?_
  constructor
  exact ⟨rfl, rfl⟩

/-! ### Delete -/
theorem ixr_sc (f : FuncId) (φ : Txt → Bool) (A : Blk) (xs : List Txt) (hl : xs.length ≤ 1000)
    (h : ∀ ys, ∀ s ∈ xs, SC PG f [.p (.str s), .ptr 0 0] ⟨[], [A, rowB ys], []⟩ fun r S' => r = vb (φ s) ∧ S' = ⟨[], [A, rowB ys], []⟩) :
    SC PG 118 [.rs 1 0 xs.length 1, .fn f [] [.ptr 0 0]] ⟨[], [A, rowB xs], []⟩ fun r S' => ((r = vi (-1) ∧ ∀ s ∈ xs, φ s = false) ∨ ∃ k : Nat, k < xs.length ∧ r = vi k ∧ (∀ s ∈ xs.take k, φ s = false) ∧ ∀ s, xs[k]? = some s → φ s = true) ∧ S' = ⟨[], [A, rowB xs], []⟩ := by
  refine walk_118 rfl (by simp) ?_
  constructor
  refine LoopF.of (fun i : Nat => ([(0, .rs 1 0 xs.length 1), (1, .fn f [] [.ptr 0 0]), (7, vi xs.length), (8, vi i)], ⟨[], [A, rowB xs], []⟩)) (fun i => xs.length - i) (fun i => i ≤ xs.length ∧ ∀ s ∈ xs.take i, φ s = false) 0 ⟨by omega, by simp⟩ rfl rfl ?_
  rintro i ⟨hi, hφ⟩
  constructor
  refine ⟨fun h1 => ?_, fun h1 => ?_⟩
  · obtain ⟨x, hx⟩ : ∃ x, xs[i]? = some x := ⟨_, List.getElem?_eq_getElem (by omega)⟩
    have hm := List.mem_of_getElem? hx
    constructor
    refine Opr.of (ia_nat _ (by omega)) ?_
    constructor
    refine Opr.of (ld_rs (xs := xs) (x := x) rfl hx) ?_
    constructor
    refine CallM.of rfl (h xs x hm) ?_
    rintro r S' ⟨rfl, rfl⟩
    cases hp : φ x
    · constructor
      refine ⟨by unfold inR; omega, ?_⟩
      refine ⟨i + 1, ⟨by omega, ?_⟩, by omega, rfl, rfl⟩
      intro s hs
      rw [List.take_add_one, hx] at hs
      rcases List.mem_append.1 hs with hs | hs
      · exact hφ s hs
      · simp at hs; subst hs; exact hp
    · constructor
      exact ⟨.inr ⟨i, by omega, rfl, hφ, fun s hs => by rw [hx] at hs; cases hs; exact hp⟩, rfl⟩
  · constructor
    refine ⟨.inl ⟨rfl, fun s hs => ?_⟩, rfl⟩
    exact hφ s (by rw [List.take_of_length_le (by omega)]; exact hs)
theorem drop_get {α : Type} {xs ys : List α} {j : Nat} (h : ys.drop j = xs.drop j) : ys[j]? = xs[j]? := by
  have : (ys.drop j)[0]? = (xs.drop j)[0]? := by rw [h]
  simpa using this
theorem drop_more {α : Type} {xs ys : List α} {j : Nat} (h : ys.drop j = xs.drop j) : ys.drop (j + 1) = xs.drop (j + 1) := by
  have : (ys.drop j).drop 1 = (xs.drop j).drop 1 := by rw [h]
  simpa [List.drop_drop, Nat.add_comm] using this
theorem set_drop {α : Type} {ys : List α} {c j : Nat} (x : α) (h : c < j) : (ys.set c x).drop j = ys.drop j := List.drop_set_of_lt h
theorem set_take {α : Type} {ys : List α} {c : Nat} (x : α) (h : c < ys.length) : (ys.set c x).take (c + 1) = ys.take c ++ [x] := by
  rw [List.take_add_one, List.take_set_of_le (Nat.le_refl _), List.getElem?_set_self h]
  rfl
theorem over_take {α : Type} {xs ys : List α} {o : Nat} (h : o + ys.length ≤ xs.length) : (over xs o ys).take o = xs.take o := by
  unfold over
  rw [List.append_assoc, List.take_append_of_le_length (by simp; omega), List.take_take, Nat.min_self]
theorem dls_sc (f : FuncId) (φ : Txt → Bool) (A : Blk) (xs : List Txt) (hl : xs.length ≤ 1000)
    (h : ∀ ys, ∀ s ∈ xs, SC PG f [.p (.str s), .ptr 0 0] ⟨[], [A, rowB ys], []⟩ fun r S' => r = vb (φ s) ∧ S' = ⟨[], [A, rowB ys], []⟩) :
    SC PG 60 [.rs 1 0 xs.length 1, .fn f [] [.ptr 0 0]] ⟨[], [A, rowB xs], []⟩ fun r S' => ∃ k zs, r = .rs 1 0 k 1 ∧ S' = ⟨[], [A, rowB zs], []⟩ ∧ k ≤ zs.length ∧ zs.take k = xs.filter fun s => !φ s := by
  refine walk_60 rfl (by simp) ?_
  constructor
  refine CallM.of rfl (ixr_sc f φ A xs hl h) ?_
  rintro r S' ⟨hr, rfl⟩
  rcases hr with ⟨rfl, hall⟩ | ⟨k, hk, rfl, hpre, hkk⟩
  · constructor
    refine Cmp.yes rfl ?_
    constructor
    refine ⟨xs.length, xs, rfl, rfl, Nat.le_refl _, ?_⟩
    rw [List.take_length]
    exact (List.filter_eq_self.2 fun s hs => by rw [hall s hs]; rfl).symm
  · constructor
    refine Cmp.no (by omega) ?_
    constructor
    refine ⟨by unfold inR; omega, ?_⟩
    constructor
    refine LoopF.of (fun s : Nat × Nat × List Txt => ([(0, .rs 1 0 xs.length 1), (1, .fn f [] [.ptr 0 0]), (5, vi s.1), (6, vi s.2.1)], ⟨[], [A, rowB s.2.2], []⟩)) (fun s => xs.length - s.2.1) (fun s => s.1 < s.2.1 ∧ s.2.1 ≤ xs.length ∧ s.2.2.length = xs.length ∧ s.2.2.take s.1 = (xs.take s.2.1).filter (fun s => !φ s) ∧ s.2.2.drop s.2.1 = xs.drop s.2.1) (k, k + 1, xs) ⟨by simp, hk, rfl, ?_, rfl⟩ rfl rfl ?_
    · obtain ⟨x, hx⟩ : ∃ x, xs[k]? = some x := ⟨_, List.getElem?_eq_getElem hk⟩
      show xs.take k = (xs.take (k + 1)).filter fun s => !φ s
      rw [List.take_add_one, hx, List.filter_append]
      rw [List.filter_eq_self.2 fun s hs => by rw [hpre s hs]; rfl]
      simp [hkk x hx]
    rintro ⟨c, j, ys⟩ ⟨hcj, hj, hyl, htk, hdr⟩
    simp only at hcj hj hyl htk hdr
    constructor
    refine ⟨fun h2 => ?_, fun h2 => ?_⟩
    · have h2 : (j : Int) < xs.length := h2
      obtain ⟨x, hx⟩ : ∃ x, xs[j]? = some x := ⟨_, List.getElem?_eq_getElem (by omega)⟩
      have hy : ys[j]? = some x := (drop_get hdr).trans hx
      have hm := List.mem_of_getElem? hx
      constructor
      refine Opr.of (ia_nat _ (by simp only; omega)) ?_
      constructor
      refine Opr.of (ld_rs (xs := ys) (x := x) rfl hy) ?_
      constructor
      refine CallM.of rfl (h ys x hm) ?_
      rintro r S' ⟨rfl, rfl⟩
      cases hp : φ x
      · constructor
        refine Opr.of (ia_nat _ (by simp only; omega)) ?_
        constructor
        refine Opr.of (st_rs (xs := ys) x rfl (by simp only; omega)) ?_
        constructor
        refine ⟨by unfold inR; simp only; omega, ?_⟩
        constructor
        refine ⟨by unfold inR; simp only; omega, ?_⟩
        refine ⟨(c + 1, j + 1, ys.set c x), ⟨by simp only; omega, by simp only; omega, by simpa using hyl, ?_, ?_⟩, by simp only; omega, rfl, rfl⟩
        · show (ys.set c x).take (c + 1) = (xs.take (j + 1)).filter fun s => !φ s
          rw [set_take x (by omega), htk, List.take_add_one, hx, List.filter_append]
          simp [hp]
        · show (ys.set c x).drop (j + 1) = xs.drop (j + 1)
          rw [set_drop x (by omega)]
          exact drop_more hdr
      · constructor
        refine ⟨by unfold inR; simp only; omega, ?_⟩
        refine ⟨(c, j + 1, ys), ⟨by simp only; omega, by simp only; omega, hyl, ?_, drop_more hdr⟩, by simp only; omega, rfl, rfl⟩
        show ys.take c = (xs.take (j + 1)).filter fun s => !φ s
        rw [htk, List.take_add_one, hx, List.filter_append]
        simp [hp]
    · have h2 : ¬ (j : Int) < xs.length := h2
      obtain rfl : j = xs.length := by omega
      constructor
      refine Opr.of (cut_nat (by simp only; omega)) ?_
      constructor
      refine Opr.of (clr_rs (xs := ys) rfl (by simp only; omega)) ?_
      constructor
      refine Opr.of (cut_tn (by simp only; omega)) ?_
      constructor
      refine ⟨c, _, rfl, rfl, ?_, ?_⟩
      · rw [over_length _ _ _ (by simp; omega)]
        omega
      · rw [over_take (by simp; omega), htk, List.take_length]

/-! ### Compact -/
theorem compact_sc (n : Nat) (xs : List Txt) (hn : n = xs.length) (hl : xs.length ≤ 1000) :
    SC PG 203 [.rs 0 0 n 1] ⟨[], [rowB xs], []⟩ fun r S' => ∃ k zs, r = .rs 0 0 k 1 ∧ S' = ⟨[], [rowB zs], []⟩ ∧ k ≤ zs.length ∧ zs.take k = compactL xs := by
  subst hn
  refine walk_203 rfl (by simp) ?_
  constructor
  refine ⟨fun h1 => ?_, fun h1 => ?_⟩
  · constructor
    refine ⟨xs.length, xs, rfl, rfl, Nat.le_refl _, ?_⟩
    rw [List.take_length]
    match xs, h1 with
    | [], _ => rfl
    | [a], _ => rfl
    | a :: b :: r, h1 => simp at h1; omega
  · constructor
    refine LoopF.of (fun k : Nat => ([(0, .rs 0 0 xs.length 1), (3, vi k)], ⟨[], [rowB xs], []⟩)) (fun k => xs.length - k) (fun k => 1 ≤ k ∧ k ≤ xs.length ∧ compactL (xs.take k) = xs.take k) 1 ⟨by omega, by omega, ?_⟩ rfl rfl ?_
    · match xs, h1 with
      | [], _ => rfl
      | a :: r, _ => simp [compactL]
    rintro k ⟨hk1, hk, hck⟩
    constructor
    refine ⟨fun h2 => ?_, fun h2 => ?_⟩
    · obtain ⟨k, rfl⟩ : ∃ q, k = q + 1 := ⟨k - 1, by omega⟩
      obtain ⟨x, hx⟩ : ∃ x, xs[k]? = some x := ⟨_, List.getElem?_eq_getElem (by omega)⟩
      obtain ⟨y, hy⟩ : ∃ y, xs[k + 1]? = some y := ⟨_, List.getElem?_eq_getElem (by omega)⟩
      have hst := compactL_take hx hy
      have e1 : (((k + 1 : Nat) : Int) - 1).toNat = k := by omega
      constructor
      refine Opr.of (ia_nat _ (by omega)) ?_
      constructor
      refine Opr.of (ld_rs (xs := xs) (x := y) rfl hy) ?_
      constructor
      refine ⟨by unfold inR; omega, ?_⟩
      constructor
      refine Opr.of (ia_rs _ (by omega) (by omega)) ?_
      constructor
      refine Opr.of (ld_rs (xs := xs) (x := x) rfl (by rw [e1]; simpa using hx)) ?_
      constructor
      refine ⟨fun h3 => ?_, fun h3 => ?_⟩
      · subst h3
        rw [if_pos rfl, List.append_nil, hck] at hst
        constructor
        refine Opr.of (cut_nat (by omega)) ?_
        constructor
        refine LoopF.of (fun s : Nat × Nat × List Txt => ([(0, .rs 0 0 xs.length 1), (3, vi s.1), (4, .rs 0 (k + 1) (xs.length - (k + 1)) 1), (5, vi s.2.1)], ⟨[], [rowB s.2.2], []⟩)) (fun s => xs.length - s.2.1) (fun s => 1 ≤ s.2.1 ∧ k + 1 + s.2.1 ≤ xs.length ∧ s.1 < k + 1 + s.2.1 ∧ s.2.2.length = xs.length ∧ s.2.2.take s.1 = compactL (xs.take (k + 1 + s.2.1)) ∧ s.2.2.drop (k + s.2.1) = xs.drop (k + s.2.1)) (k + 1, 1, xs) ⟨by simp, by simp only; omega, by simp, rfl, hst.symm, rfl⟩ rfl rfl ?_
        rintro ⟨c, j, ys⟩ ⟨hj1, hj, hc, hyl, htk, hdr⟩
        simp only at hj1 hj hc hyl htk hdr
        constructor
        refine ⟨fun h4 => ?_, fun h4 => ?_⟩
        · have h4 : (j : Int) < (xs.length - (k + 1) : Nat) := h4
          obtain ⟨j, rfl⟩ : ∃ q, j = q + 1 := ⟨j - 1, by omega⟩
          obtain ⟨u, hu⟩ : ∃ u, xs[k + 1 + j]? = some u := ⟨_, List.getElem?_eq_getElem (by omega)⟩
          obtain ⟨v, hv⟩ : ∃ v, xs[k + 1 + j + 1]? = some v := ⟨_, List.getElem?_eq_getElem (by omega)⟩
          have hst2 := compactL_take hu hv
          have hu2 : ys[k + 1 + j]? = some u := by
            rw [show k + 1 + j = k + (j + 1) by omega] at hu ⊢
            exact (drop_get hdr).trans hu
          have hv2 : ys[k + 1 + j + 1]? = some v := by
            rw [show k + 1 + j + 1 = k + (j + 1) + 1 by omega] at hv ⊢
            exact (drop_get (drop_more hdr)).trans hv
          have e2 : (((j + 1 : Nat) : Int) - 1).toNat = j := by omega
          have e3 : (((j + 1 : Nat) : Int)).toNat = j + 1 := by omega
          constructor
          refine Opr.of (ia_off _ (by simp only; omega)) ?_
          constructor
          refine Opr.of (ld_rs (xs := ys) (x := v) rfl hv2) ?_
          constructor
          refine ⟨by unfold inR; simp only; omega, ?_⟩
          constructor
          refine Opr.of (ia_rs _ (by simp only; omega) (by simp only; omega)) ?_
          constructor
          refine Opr.of (ld_rs (xs := ys) (x := u) rfl (by simp only [e2]; rw [← hu2]; congr 1; omega)) ?_
          constructor
          refine ⟨fun h5 => ?_, fun h5 => ?_⟩
          · rw [if_pos h5.symm, List.append_nil] at hst2
            constructor
            refine ⟨by unfold inR; simp only; omega, ?_⟩
            refine ⟨(c, j + 1 + 1, ys), ⟨by simp only; omega, by simp only; omega, by simp only; omega, hyl, ?_, ?_⟩, by simp only; omega, rfl, rfl⟩
            · show ys.take c = compactL (xs.take (k + 1 + (j + 1 + 1)))
              rw [htk, show k + 1 + (j + 1 + 1) = k + 1 + j + 2 by omega, hst2]
              congr 1
            · exact drop_more hdr
          · rw [if_neg (fun h => h5 h.symm)] at hst2
            constructor
            refine Opr.of (ia_off _ (by simp only; omega)) ?_
            constructor
            refine Opr.of (ld_rs (xs := ys) (x := v) rfl hv2) ?_
            constructor
            refine Opr.of (ia_nat _ (by simp only; omega)) ?_
            constructor
            refine Opr.of (st_rs (xs := ys) v rfl (by simp only; omega)) ?_
            constructor
            refine ⟨by unfold inR; simp only; omega, ?_⟩
            constructor
            refine ⟨by unfold inR; simp only; omega, ?_⟩
            refine ⟨(c + 1, j + 1 + 1, ys.set c v), ⟨by simp only; omega, by simp only; omega, by simp only; omega, by simpa using hyl, ?_, ?_⟩, by simp only; omega, rfl, rfl⟩
            · show (ys.set c v).take (c + 1) = compactL (xs.take (k + 1 + (j + 1 + 1)))
              rw [set_take v (by omega), htk, show k + 1 + (j + 1 + 1) = k + 1 + j + 2 by omega, hst2]
              congr 1
            · show (ys.set c v).drop (k + (j + 1 + 1)) = xs.drop (k + (j + 1 + 1))
              rw [set_drop v (by omega)]
              exact drop_more hdr
        · have h4 : ¬ (j : Int) < (xs.length - (k + 1) : Nat) := h4
          have hjn : k + 1 + j = xs.length := by omega
          rw [hjn, List.take_length] at htk
          constructor
          refine Opr.of (cut_nat (by simp only; omega)) ?_
          constructor
          refine Opr.of (clr_rs (xs := ys) rfl (by simp only; omega)) ?_
          constructor
          refine Opr.of (cut_tn (by simp only; omega)) ?_
          constructor
          refine ⟨c, _, rfl, rfl, ?_, ?_⟩
          · rw [over_length _ _ _ (by simp; omega)]
            omega
          · rw [over_take (by simp; omega), htk]
      · rw [if_neg (fun h => h3 h.symm), hck] at hst
        constructor
        refine ⟨by unfold inR; omega, ?_⟩
        refine ⟨k + 2, ⟨by omega, by omega, ?_⟩, by omega, rfl, rfl⟩
        rw [hst]
        conv => rhs; rw [show k + 2 = k + 1 + 1 by omega, List.take_add_one, hy]
        rfl
    · obtain rfl : k = xs.length := by omega
      rw [List.take_length] at hck
      constructor
      exact ⟨xs.length, xs, rfl, rfl, Nat.le_refl _, by rw [List.take_length, hck]⟩
end Go.Ag
/- Contracts of Go's library at this seat's translation, laid by the kit's shelf in plain words; each theorem's conditions stand in it. -/
namespace Go.Proofs
open Go.Shelf
def Tryz.lays190_ren : Go.Shelf.Ren := ⟨fun | 190 => 202 | 125 => 164 | 258 => 247 | 128 => 217 | 129 => 218 | 302 => 283 | 303 => 284 | 304 => 285 | 305 => 286 | 306 => 287 | 307 => 288 | 308 => 289 | 309 => 290 | 310 => 291 | 333 => 313 | 329 => 250 | 330 => 251 | 334 => 314 | 335 => 315 | 336 => 316 | 344 => 324 | n => n, fun | 31 => 45 | 9 => 9 | 3 => 3 | 46 => 215 | 0 => 0 | 51 => 283 | 53 => 247 | 4 => 4 | 183 => 276 | 182 => 275 | 131 => 168 | 5 => 5 | 218 => 304 | 222 => 134 | 228 => 339 | 229 => 340 | n => n, fun | n => n⟩
theorem Tryz.lays190 : Go.Proofs.Lays.n190 Tryz.prog Tryz.lays190_ren := {
  mixed := by kernel_rfl
  f125 := Tryz.func164.trans (congrArg some (by kernel_rfl))
  f128 := Tryz.func217.trans (congrArg some (by kernel_rfl))
  f129 := Tryz.func218.trans (congrArg some (by kernel_rfl))
  f190 := Tryz.func202.trans (congrArg some (by kernel_rfl))
  f258 := Tryz.func247.trans (congrArg some (by kernel_rfl))
  f302 := Tryz.func283.trans (congrArg some (by kernel_rfl))
  f303 := Tryz.func284.trans (congrArg some (by kernel_rfl))
  f304 := Tryz.func285.trans (congrArg some (by kernel_rfl))
  f305 := Tryz.func286.trans (congrArg some (by kernel_rfl))
  f306 := Tryz.func287.trans (congrArg some (by kernel_rfl))
  f307 := Tryz.func288.trans (congrArg some (by kernel_rfl))
  f308 := Tryz.func289.trans (congrArg some (by kernel_rfl))
  f309 := Tryz.func290.trans (congrArg some (by kernel_rfl))
  f310 := Tryz.func291.trans (congrArg some (by kernel_rfl))
  f329 := Tryz.func250.trans (congrArg some (by kernel_rfl))
  f330 := Tryz.func251.trans (congrArg some (by kernel_rfl))
  f333 := Tryz.func313.trans (congrArg some (by kernel_rfl))
  f334 := Tryz.func314.trans (congrArg some (by kernel_rfl))
  f335 := Tryz.func315.trans (congrArg some (by kernel_rfl))
  f336 := Tryz.func316.trans (congrArg some (by kernel_rfl))
  f344 := Tryz.func324.trans (congrArg some (by kernel_rfl))
  t0 := Tryz.underlying0
  a0 := Tryz.isAgg0
  z0 := Tryz.sizeOf0
  v0 := Tryz.zeroValue0
  t3 := Tryz.underlying3
  a3 := Tryz.isAgg3
  z3 := Tryz.sizeOf3
  v3 := Tryz.zeroValue3
  t4 := Tryz.underlying4
  a4 := Tryz.isAgg4
  z4 := Tryz.sizeOf4
  v4 := Tryz.zeroValue4
  t5 := Tryz.underlying5
  a5 := Tryz.isAgg5
  z5 := Tryz.sizeOf5
  v5 := Tryz.zeroValue5
  t9 := Tryz.underlying9
  a9 := Tryz.isAgg9
  z9 := Tryz.sizeOf9
  v9 := Tryz.zeroValue9
  t31 := Tryz.underlying45
  a31 := Tryz.isAgg45
  z31 := Tryz.sizeOf45
  v31 := Tryz.zeroValue45
  t46 := Tryz.underlying215
  a46 := Tryz.isAgg215
  z46 := Tryz.sizeOf215
  v46 := Tryz.zeroValue215
  t51 := Tryz.underlying283
  a51 := Tryz.isAgg283
  z51 := Tryz.sizeOf283
  v51 := Tryz.zeroValue283
  t53 := Tryz.underlying247
  a53 := Tryz.isAgg247
  z53 := Tryz.sizeOf247
  v53 := Tryz.zeroValue247
  t131 := Tryz.underlying168
  a131 := Tryz.isAgg168
  z131 := Tryz.sizeOf168
  v131 := Tryz.zeroValue168
  t182 := Tryz.underlying275
  a182 := Tryz.isAgg275
  z182 := Tryz.sizeOf275
  v182 := Tryz.zeroValue275
  t183 := Tryz.underlying276
  a183 := Tryz.isAgg276
  z183 := Tryz.sizeOf276
  v183 := Tryz.zeroValue276
  t218 := Tryz.underlying304
  a218 := Tryz.isAgg304
  z218 := Tryz.sizeOf304
  v218 := Tryz.zeroValue304
  t222 := Tryz.underlying134
  a222 := Tryz.isAgg134
  z222 := Tryz.sizeOf134
  v222 := Tryz.zeroValue134
  t228 := Tryz.underlying339
  a228 := Tryz.isAgg339
  z228 := Tryz.sizeOf339
  v228 := Tryz.zeroValue339
  t229 := Tryz.underlying340
  a229 := Tryz.isAgg340
  z229 := Tryz.sizeOf340
  v229 := Tryz.zeroValue340 }
open Go.Sort Go.RowKit in
theorem Tryz.slices_Sort_string (blk off cap : Nat) (ss : List (List UInt8)) (w : World) (hH : Holds encStr w blk off ss.toArray) (hblk : blk < w.heap.size) (hsz : ss.length < 4611686018427387904) :
    Calls Tryz.prog 202 #[.slice (some ⟨blk, off, none⟩) ss.length cap] w fun e w' =>
      e = .returned (.tuple #[]) ∧ ∃ n os, w' = grow (putRow encStr (Sort.ahead w n) blk off (ss.mergeSort fun x y => decide (x ≤ y)).toArray) os := Any.slices_Sort_string Tryz.lays190 blk off cap ss w hH hblk hsz
end Go.Proofs
/- ScopesAgree: the least scopes; what two lists have in common. -/
namespace Go.Ag
open Go
set_option linter.unusedVariables false
set_option linter.unusedSimpArgs false
set_option maxRecDepth 100000

theorem sort202 (xs : List Txt) (hl : xs.length ≤ 1000) : SC PG 202 [.rs 0 0 xs.length 1] ⟨[], [rowB xs], []⟩ fun r S' => r = .tup [] ∧ S' = ⟨[], [rowB (xs.mergeSort leStr)], []⟩ :=
  sort_sc (Enters.mk Go.Proofs.Tryz.func202 rfl rfl) (fun blk off cap zs w h1 h2 h3 => Go.Proofs.Tryz.slices_Sort_string blk off cap zs w h1 h2 h3) rfl (b := 0) (ty := 19) rfl (by omega)
theorem rising_pf (l : List Txt) (hne : l ≠ []) (hl : l.length ≤ 50) : PFun PG 145 [.sl (strs l)] (.sl (strs (risingL l))) := by
  refine walk_145 rfl (by simp) ?_
  constructor
  refine CallM.of rfl (clone_sc l hne (by omega) []) ?_
  rintro r S' ⟨rfl, rfl⟩
  constructor
  refine CallM.of rfl (sort202 l (by omega)) ?_
  rintro r S' ⟨rfl, rfl⟩
  constructor
  refine CallM.of rfl (compact_sc l.length (l.mergeSort leStr) (by simp) (by simp; omega)) ?_
  rintro r S' ⟨k, zs, rfl, rfl, hk, hz⟩
  constructor
  exact ⟨(still_rs (xs := zs) rfl hk).trans (congrArg (fun z : List Txt => some (PV.sl (z.map PV.str))) hz)⟩

/-- Whether another one covers it. -/
def lost (R : List Txt) (s : Txt) : Bool := R.any fun h => h != s && cov h s
theorem cl149 (A B : Blk) (h s : Txt) (hh : h ∈ ten) (hs : s ∈ ten) : SC PG 149 [.p (.str h), .ptr 2 0] ⟨[], [A, B, .cells 18 [.p (.str s)]], []⟩ fun r S' => r = vb (h != s && cov h s) ∧ S' = ⟨[], [A, B, .cells 18 [.p (.str s)]], []⟩ := by
  have hc := cov_pf h s hh hs
  by_cases he : h = s
  · refine walk_149 rfl (by simp) ?_
    constructor
    refine Cmp.yes he ?_
    constructor
    exact ⟨by simp [he], rfl⟩
  · have e : (h != s) = true := by simpa using he
    rw [e, Bool.true_and]
    cases hb : cov h s
    all_goals
      rw [hb] at hc
      refine walk_149 rfl (by simp) ?_
      constructor
      refine Cmp.no he ?_
      constructor
      refine CallV.of hc ?_
      constructor
      exact ⟨rfl, rfl⟩
theorem cl147 (R ys : List Txt) (s : Txt) (hR : ∀ x ∈ R, x ∈ ten) (hlen : R.length ≤ 50) (hs : s ∈ ten) :
    SC PG 147 [.p (.str s), .ptr 0 0] ⟨[], [.cells 90 [.p (.sl (strs R))], rowB ys], []⟩ fun r S' => r = vb (lost R s) ∧ S' = ⟨[], [.cells 90 [.p (.sl (strs R))], rowB ys], []⟩ := by
  have hc := cnt_sc 149 2 (fun h => h != s && cov h s) R [.cells 90 [.p (.sl (strs R))], rowB ys, .cells 18 [.p (.str s)]] [] (by omega) (fun x hx => cl149 _ _ x s (hR x hx) hs)
  refine SC.forget (Q := fun r S' => r = vb (lost R s) ∧ S' = ⟨[], [.cells 90 [.p (.sl (strs R))], rowB ys] ++ [.cells 18 [.p (.str s)]], [] ++ []⟩) ?_ ?_
  · cases hb : lost R s
    all_goals
      have hb' : R.any (fun h => h != s && cov h s) = _ := hb
      rw [hb'] at hc
      refine walk_147 rfl (by simp) ?_
      constructor
      refine CallM.of rfl hc ?_
      rintro r S' ⟨rfl, rfl⟩
      constructor
      exact ⟨rfl, rfl⟩
  · rintro r S' ⟨rfl, rfl⟩
    exact ⟨_, _, _, _, rfl, by simp, by simp, (by intro x hx; cases hx), by simp [Blk.low, RV.low], (by intro x hx; cases hx), rfl, rfl, rfl⟩
theorem pf_evT {f : FuncId} {args : List PV} {r : PV} (h : (evFn tabS.find (fun _ _ _ => none) 200 20 f (args.map .p) mem0).bind (fun x => x.1.still x.2) = some r) : PFun PG f args r := by
  obtain ⟨⟨rv, S⟩, h1, h2⟩ := Option.bind_eq_some_iff.1 h
  refine (evFn_sound mix (BT.ok tabS tabS_ok) callOk_none 200 20 f _ mem0 _ _ rfl h1).mono ?_
  rintro r' S'' ⟨rfl, rfl⟩
  exact h2
theorem least_pf (l : List Txt) (hl : ∀ x ∈ l, x ∈ ten) (hlen : l.length ≤ 50) : PFun PG 88 [.sl (strs l)] (.sl (strs (leastL (risingL l)))) := by
  by_cases hne : l = []
  · subst hne
    have e : leastL (risingL []) = [] := by simp [leastL, risingL, compactL]
    rw [e]
    exact pf_evT (by kernel_rfl)
  · have hRl : (risingL l).length ≤ 50 := by have := risingL_len l; omega
    have hRne : risingL l ≠ [] := by
      intro h
      obtain ⟨x, hx⟩ := List.exists_mem_of_ne_nil l hne
      have := risingL_mem.2 hx
      rw [h] at this
      cases this
    have hR : ∀ x ∈ risingL l, x ∈ ten := fun x hx => hl x (risingL_mem.1 hx)
    refine walk_88 rfl (by simp) ?_
    constructor
    refine CallV.of (rising_pf l hne hlen) ?_
    constructor
    refine CallM.of rfl (clone_sc (risingL l) hRne (by omega) [.cells 90 [.p (.sl (strs (risingL l)))]]) ?_
    rintro r S' ⟨rfl, rfl⟩
    constructor
    refine CallM.of rfl (dls_sc 147 (lost (risingL l)) (.cells 90 [.p (.sl (strs (risingL l)))]) (risingL l) (by omega) (fun ys s hs => cl147 (risingL l) ys s hR hRl (hR s hs))) ?_
    rintro r S' ⟨k, zs, rfl, rfl, hk, hz⟩
    constructor
    exact ⟨(still_rs (xs := zs) rfl hk).trans (congrArg (fun z : List Txt => some (PV.sl (z.map PV.str))) hz)⟩
theorem leastL_len (l : List Txt) : (leastL l).length ≤ l.length := List.length_filter_le _ _
theorem lsc_pf (l : List Txt) (hl : ∀ x ∈ l, x ∈ ten) (hlen : l.length ≤ 50) : PFun PG 30 [.sl (strs l)] (.tup [.sl (strs (leastL (risingL l))), .int .i64 0]) := by
  refine walk_30 rfl (by simp) ?_
  constructor
  refine CallV.of (scopes10_pf l hl hlen) ?_
  constructor
  refine Cmp.yes rfl ?_
  constructor
  refine CallV.of (least_pf l hl hlen) ?_
  constructor
  exact ⟨rfl⟩

theorem ext_nil (T : Toks) : Ext [] T := fun i x h => by simp at h
theorem meetL_take {a b : List Txt} {i : Nat} {x : Txt} (hx : a[i]? = some x) : meetL (a.take (i + 1)) b = meetL (a.take i) b ++ b.flatMap (meet1 x) := by
  unfold meetL
  rw [List.take_add_one, hx, List.flatMap_append]
  simp
theorem flatMap_take {b : List Txt} {j : Nat} {y : Txt} (f : Txt → List Txt) (hy : b[j]? = some y) : (b.take (j + 1)).flatMap f = (b.take j).flatMap f ++ f y := by
  rw [List.take_add_one, hy, List.flatMap_append]
  simp
set_option maxHeartbeats 2000000 in
theorem meet_pf (a b : List Txt) (ha : ∀ x ∈ a, x ∈ ten) (hla : a.length ≤ 4) (hb : ∀ x ∈ b, x ∈ ten) (hlb : b.length ≤ 4) :
    PFun PG 29 [.sl (strs a), .sl (strs b)] (.tup [.sl (strs (leastL (risingL (meetL a b)))), .int .i64 0]) := by
  have hna : ((strs a).length : Int) = a.length := by simp
  have hnb : ((strs b).length : Int) = b.length := by simp
  refine walk_29 rfl (by simp) ?_
  constructor
  refine CallV.of (lists_pf a b ha (by omega) hb (by omega)) ?_
  constructor
  refine Cmp.yes rfl ?_
  constructor
  refine LoopF.of (fun s : Nat × RV × Toks => ([(1, .p (.sl (strs b))), (7, s.2.1), (19, .p (.sl (strs a))), (20, vi (strs a).length), (21, vi s.1)], ⟨[], [], s.2.2⟩)) (fun s => a.length - s.1) (fun s => s.1 ≤ a.length ∧ Row [] 1 9 (strs (meetL (a.take s.1) b)) s.2.2 s.2.1 ∧ (meetL (a.take s.1) b).length ≤ 4 * s.1) (0, .nsl true, []) ⟨by simp, Row.nil, by simp [meetL]⟩ rfl rfl ?_
  rintro ⟨i, q, T⟩ ⟨hi, hr, hlm⟩
  simp only at hi hr hlm
  have hr2 := hr
  rcases hr with ⟨rfl, he⟩ | ⟨t, rfl, ht⟩
  all_goals
    constructor
    refine ⟨fun h2 => ?_, fun h2 => ?_⟩
    · have h2 : (i : Int) < (strs a).length := h2
      rw [hna] at h2
      constructor
      refine Elt.map (by simp only; omega) (by simp only; omega) fun x hx => ⟨rfl, ?_⟩
      have hx : a[i]? = some x := hx
      have hxm := List.mem_of_getElem? hx
      constructor
      refine LoopF.of (fun s : Nat × RV × Toks => ([(1, .p (.sl (strs b))), (7, s.2.1), (9, .p (.str x)), (19, .p (.sl (strs a))), (20, vi (strs a).length), (21, vi i), (25, .p (.sl (strs b))), (26, vi (strs b).length), (27, vi s.1)], ⟨[], [], s.2.2⟩)) (fun s => b.length - s.1) (fun s => s.1 ≤ b.length ∧ Row [] 1 9 (strs (meetL (a.take i) b ++ (b.take s.1).flatMap (meet1 x))) s.2.2 s.2.1 ∧ (meetL (a.take i) b ++ (b.take s.1).flatMap (meet1 x)).length ≤ 4 * i + s.1) (0, _, T) ⟨by simp, by simpa using hr2, by simpa using hlm⟩ rfl rfl ?_
      rintro ⟨j, q2, T2⟩ ⟨hj, hr3, hlm3⟩
      simp only at hj hr3 hlm3
      have hr4 := hr3
      rcases hr3 with ⟨rfl, he3⟩ | ⟨t3, rfl, ht3⟩
      all_goals
        constructor
        refine ⟨fun h3 => ?_, fun h3 => ?_⟩
        · have h3 : (j : Int) < (strs b).length := h3
          rw [hnb] at h3
          constructor
          refine Elt.map (by simp only; omega) (by simp only; omega) fun y hy => ⟨rfl, ?_⟩
          have hy : b[j]? = some y := hy
          have hym := List.mem_of_getElem? hy
          have c1 := cov_pf x y (ha x hxm) (hb y hym)
          have c2 := cov_pf y x (hb y hym) (ha x hxm)
          have hf := flatMap_take (meet1 x) hy
          cases e1 : cov x y
          · rw [e1] at c1
            constructor
            refine CallV.of c1 ?_
            cases e2 : cov y x
            · rw [e2] at c2
              have hm1 : meet1 x y = [] := by simp [meet1, e1, e2]
              rw [hm1, List.append_nil] at hf
              constructor
              refine CallV.of c2 ?_
              constructor
              refine ⟨by unfold inR; simp only; omega, ?_⟩
              exact ⟨(j + 1, _, T2), ⟨by simp only; omega, by simp only [hf]; exact hr4, by simp only [hf]; omega⟩, by simp only; omega, rfl, rfl⟩
            · rw [e2] at c2
              have hm1 : meet1 x y = [x] := by simp [meet1, e1, e2]
              rw [hm1] at hf
              obtain ⟨t', T', k1, k2, k3⟩ := hr4.app (y := .str x) (b := 16) (ext_nil _) rfl (by simp only [List.length_map, lim]; omega)
              constructor
              refine CallV.of c2 ?_
              constructor
              refine Opr.of (k1 _ rfl) ?_
              constructor
              refine ⟨by unfold inR; simp only; omega, ?_⟩
              exact ⟨(j + 1, _, T'), ⟨by simp only; omega, by simp only [hf]; rw [← List.append_assoc]; simpa using k2, by simp only [hf]; rw [← List.append_assoc, List.length_append]; simp only [List.length_cons, List.length_nil]; omega⟩, by simp only; omega, rfl, rfl⟩
          · rw [e1] at c1
            have hm1 : meet1 x y = [y] := by simp [meet1, e1]
            rw [hm1] at hf
            obtain ⟨t', T', k1, k2, k3⟩ := hr4.app (y := .str y) (b := 16) (ext_nil _) rfl (by simp only [List.length_map, lim]; omega)
            constructor
            refine CallV.of c1 ?_
            constructor
            refine Opr.of (k1 _ rfl) ?_
            constructor
            refine ⟨by unfold inR; simp only; omega, ?_⟩
            exact ⟨(j + 1, _, T'), ⟨by simp only; omega, by simp only [hf]; rw [← List.append_assoc]; simpa using k2, by simp only [hf]; rw [← List.append_assoc, List.length_append]; simp only [List.length_cons, List.length_nil]; omega⟩, by simp only; omega, rfl, rfl⟩
        · have h3 : ¬ (j : Int) < (strs b).length := h3
          rw [hnb] at h3
          have hbt : b.take j = b := List.take_of_length_le (by omega)
          have hmt := meetL_take (b := b) hx
          constructor
          refine ⟨by unfold inR; omega, ?_⟩
          refine ⟨(i + 1, _, T2), ⟨by simp only; omega, ?_, ?_⟩, by simp only; omega, rfl, rfl⟩
          · simp only [hmt, hbt] at hr4 ⊢
            exact hr4
          · simp only [hmt]
            rw [hbt] at hlm3
            omega
    · have h2 : ¬ (i : Int) < (strs a).length := h2
      rw [hna] at h2
      have hat : a.take i = a := List.take_of_length_le (by omega)
      have hls := least_pf (meetL (a.take i) b) (fun x hx => by
        rw [hat] at hx
        exact (meetL_sub hx).elim (ha x) (hb x)) (by omega)
      have hlq : ((strs (leastL (risingL (meetL (a.take i) b)))).length : Int) ≤ 16 := by
        have h5 := leastL_len (risingL (meetL (a.take i) b))
        have h6 := risingL_len (meetL (a.take i) b)
        simp only [List.length_map]
        omega
      try rw [he] at hls
      constructor
      refine CallV.of hls ?_
      constructor
      refine Cmp.no (by omega) ?_
      constructor
      exact ⟨by rw [← hat]; simp only [List.take_take, Nat.min_self]; rfl⟩
end Go.Ag
namespace Go.Ag
open Go
set_option maxRecDepth 100000
theorem ready_ev : evFn tab.find (fun _ _ _ => none) 200 20 16 [] mem0 = some (.p (.bool true), mem0) := by kernel_rfl
theorem ready_pf : PFun Go.Proofs.Tryz.prog 16 [] (.bool true) := by
  refine (evFn_sound (by kernel_rfl) (BT.ok tab tab_ok) callOk_none 200 20 16 [] mem0 _ _ rfl ready_ev).mono ?_
  rintro r' S'' ⟨rfl, rfl⟩
  rfl
#print axioms ready_pf
end Go.Ag
/- ScopesAgree: the law's function returns true. -/
namespace Go.Ag
open Go
set_option linter.unusedVariables false
set_option linter.unusedSimpArgs false
set_option maxRecDepth 100000

theorem allCov_one (l : List Txt) (v : Txt) : allCov l [v] = anyCov l v := by simp [allCov]
theorem nine_ten {s : Txt} (h : s ∈ nine) : s ∈ ten := List.mem_cons_of_mem _ h
/-- What Covers says of all that the law asks. -/
theorem law6_ex (a b : List Txt) (v : Txt) (ha : ∀ x ∈ a, x ∈ ten) (hla : a.length ≤ 4) (hb : ∀ x ∈ b, x ∈ ten) (hlb : b.length ≤ 4) (hm : (meetL a b).length ≤ 16) (hv : v ∈ ten) :
    ∃ p q, PFun PG 31 [.sl (strs a), .sl (strs [v])] (.tup [.bool p, .int .i64 0]) ∧ PFun PG 31 [.sl (strs b), .sl (strs [v])] (.tup [.bool q, .int .i64 0]) ∧
      PFun PG 31 [.sl (strs (leastL (risingL (meetL a b)))), .sl (strs [v])] (.tup [.bool (p && q), .int .i64 0]) ∧ PFun PG 31 [.sl (strs (leastL (risingL a))), .sl (strs [v])] (.tup [.bool p, .int .i64 0]) ∧
      PFun PG 31 [.sl (strs (leastL (risingL a))), .sl (strs a)] (.tup [.bool true, .int .i64 0]) ∧ PFun PG 31 [.sl (strs a), .sl (strs (leastL (risingL a)))] (.tup [.bool true, .int .i64 0]) := by
  have hv1 : ∀ x ∈ [v], x ∈ ten := fun x hx => by rw [List.mem_singleton.1 hx]; exact hv
  have hmt : ∀ x ∈ meetL a b, x ∈ ten := fun x hx => (meetL_sub hx).elim (ha x) (hb x)
  have hml : ∀ x ∈ leastL (risingL (meetL a b)), x ∈ ten := fun x hx => hmt x (risingL_mem.1 (leastL_sub hx))
  have hal : ∀ x ∈ leastL (risingL a), x ∈ ten := fun x hx => ha x (risingL_mem.1 (leastL_sub hx))
  have hn : ∀ l : List Txt, (leastL (risingL l)).length ≤ l.length := fun l => Nat.le_trans (leastL_len _) (risingL_len l)
  have hna := hn a
  have hnm := hn (meetL a b)
  have same : ∀ l : List Txt, (∀ x ∈ l, x ∈ ten) → anyCov (leastL (risingL l)) v = anyCov l v := fun l hl => by
    rw [any_least (fun x hx => hl x (risingL_mem.1 hx)) hv, any_same (fun x => risingL_mem)]
  refine ⟨anyCov a v, anyCov b v, ?_, ?_, ?_, ?_, ?_, ?_⟩
  · rw [← allCov_one]; exact covers_pf a [v] ha (by omega) hv1 (by simp)
  · rw [← allCov_one]; exact covers_pf b [v] hb (by omega) hv1 (by simp)
  · have := covers_pf _ [v] hml (by omega) hv1 (by simp)
    rw [allCov_one, same _ hmt, any_meet ha hb hv] at this
    exact this
  · have := covers_pf _ [v] hal (by omega) hv1 (by simp)
    rw [allCov_one, same _ ha] at this
    exact this
  · have := covers_pf _ a hal (by omega) ha (by omega)
    rw [all_forth (fun x => risingL_mem) ha] at this
    exact this
  · have := covers_pf a _ ha (by omega) hal (by omega)
    rw [all_back (fun x => risingL_mem)] at this
    exact this
theorem meetL_len (a b : List Txt) : (meetL a b).length ≤ a.length * b.length := by
  have one : ∀ x y, (meet1 x y).length ≤ 1 := by
    intro x y
    unfold meet1
    split
    · simp
    · split <;> simp
  have row : ∀ (x : Txt) (b : List Txt), (b.flatMap (meet1 x)).length ≤ b.length := by
    intro x b
    induction b with
    | nil => simp
    | cons y b ih =>
      rw [List.flatMap_cons, List.length_append, List.length_cons]
      have := one x y
      omega
  induction a with
  | nil => simp [meetL]
  | cons x a ih =>
    have e : meetL (x :: a) b = b.flatMap (meet1 x) ++ meetL a b := by simp [meetL]
    rw [e, List.length_append, List.length_cons, Nat.add_mul]
    have := row x b
    omega

def tests : List Txt := [[97], [97, 58, 42], [97, 58, 98], [97, 58, 98, 58, 42], [97, 58, 98, 58, 99], [98], [98, 58, 99], [42], [97, 58, 99]]
set_option maxHeartbeats 4000000 in
theorem law6 (l : List Int) (hl : l.length ≤ 140737488355328) : PFun PG 6 [ints l] (.bool true) := by
  refine walk_6 rfl (by simp) ?_
  constructor
  refine CallM.of rfl (rsc_sc l 0 [] [] hl (by omega) (by omega)) ?_
  rintro r S' ⟨a, a1, T1, ha, ha1, _, hra, rfl⟩
  rcases hra with ⟨rfl, hea⟩ | ⟨ta, rfl, _⟩
  case' inl => obtain rfl : a = [] := List.map_eq_nil_iff.1 hea
  all_goals
    constructor
    refine CallM.of rfl (rsc_sc l a1 [] T1 hl (by omega) (by omega)) ?_
    rintro r S' ⟨b, a2, T2, hb, ha2, _, hrb, rfl⟩
    rcases hrb with ⟨rfl, heb⟩ | ⟨tb, rfl, _⟩
    case' inl => obtain rfl : b = [] := List.map_eq_nil_iff.1 heb
    all_goals
      constructor
      refine CallM.of rfl (some_sc l a2 [] T2 tests hl (by omega) (by omega) (by decide) (by decide)) ?_
      rintro r S' ⟨v, hv, rfl, rfl⟩
      have hv10 : v ∈ ten := by
        have : ∀ v ∈ tests, v ∈ ten := by decide
        exact this v hv
      have hat := fun x hx => nine_ten (ha.1 x hx)
      have hbt := fun x hx => nine_ten (hb.1 x hx)
      have hml : (meetL _ _).length ≤ 16 := Nat.le_trans (meetL_len _ _) (Nat.mul_le_mul ha.2 hb.2)
      obtain ⟨p, q, c1, c2, c3, c4, c5, c6⟩ := law6_ex _ _ v hat ha.2 hbt hb.2 hml hv10
      cases p <;> cases q
      all_goals
        constructor
        refine CallV.of (meet_pf _ _ hat ha.2 hbt hb.2) ?_
        constructor
        refine CallV.of (lsc_pf _ hat (by have := ha.2; omega)) ?_
        constructor
        refine CallV.of c1 ?_
        constructor
        refine CallV.of c2 ?_
        constructor
        refine CallV.of c3 ?_
        constructor
        refine CallV.of c4 ?_
        constructor
        refine CallV.of c5 ?_
        constructor
        refine CallV.of c6 ?_
        constructor
        refine CallV.of errs_pf ?_
        constructor
        refine Cmp.yes rfl ?_
        constructor
        refine CallV.of ready_pf ?_
        constructor
        exact ⟨rfl⟩
end Go.Ag
/- An abstract machine for Go functions: a law over a list of whole numbers, called in any memory. -/
namespace Go.Ag
open Go Go.ChangeShapes Go.WideShapes Go.RowKit
set_option linter.unusedVariables false
set_option linter.unusedSimpArgs false

/-- A row of whole numbers, as a card reads it. -/
def IsRow (k : IntKind) (w : World) (a : Option Addr) (len cap : Nat) (zs : List Int) : Prop :=
  (a = none ∧ len = 0 ∧ cap = 0 ∧ zs = []) ∨
  ∃ x, a = some x ∧ len ≤ cap ∧ cap ≤ maxLen ∧ zs.length = cap ∧ (∀ i, i < zs.length → w.cell? (x.add i) = some (.int k (zs.getD i 0))) ∧ ∀ n ∈ zs, (Lit.int k n).wf = true

theorem rep_ints {F : Cells} (hF : ∀ β o, ¬ F β o) {w : World} {a : Option Addr} {len cap : Nat} {zs : List Int} (h : IsRow .i64 w a len cap zs) :
    Rep F w (.sl ((zs.take len).map (PV.int .i64))) (.slice a len cap) := by
  have flatI : ∀ l : List Int, flat (l.map (PV.int .i64)) = l.map (PV.int .i64) := by
    intro l
    induction l with
    | nil => rfl
    | cons x l ih => rw [List.map_cons, flat_cons, ih]; rfl
  rcases h with ⟨rfl, rfl, rfl, rfl⟩ | ⟨x, rfl, h1, h2, h3, h4, _⟩
  · exact .sl [] none 0 1 (fun _ => undef) (by simp) (by simp) (by simp) (.inl rfl) (by simp [flat])
  · have hlen : ((zs.take len).map (PV.int .i64)).length = len := by simp; omega
    have key : Rep F w (.sl ((zs.take len).map (PV.int .i64))) (.slice (some x) ((zs.take len).map (PV.int .i64)).length cap) := by
      refine .sl _ _ cap 1 (fun k => .int .i64 (zs.getD k 0)) (by simp) (by rw [hlen]; exact h1) (fun y hy => ?_) ?_ (fun k y hy => ?_)
      · obtain ⟨n, _, rfl⟩ := List.mem_map.1 hy
        rfl
      · by_cases h0 : len = 0
        · subst h0; left; simp
        · right
          have hx0 := h4 0 (by omega)
          have hsp : x.spot = none := by
            unfold World.cell? at hx0
            have e : x.add 0 = x := by simp [Addr.add]
            rw [e] at hx0
            cases hs : x.spot with
            | none => rfl
            | some s =>
              rw [hs] at hx0
              split at hx0 <;> simp at hx0
          obtain ⟨b, o, s⟩ := x
          simp only at hsp
          subst hsp
          refine ⟨b, o, rfl, fun k hk => ⟨?_, hF _ _⟩⟩
          rw [flatI] at hk
          have := h4 k (by simp at hk; omega)
          rwa [addr_add] at this
      · rw [flatI] at hy
        rw [List.getElem?_map, Option.map_eq_some_iff] at hy
        obtain ⟨n, hn, rfl⟩ := hy
        rw [List.getElem?_take] at hn
        split at hn
        · have : zs.getD k 0 = n := by simp [List.getD, hn]
          rw [this]
          exact .int _ _
        · cases hn
    rwa [hlen] at key

/-- A law that is true of all lists returns true, whatever the memory, and leaves it as it was. -/
theorem PFun.row {P : Program} {f : FuncId} (h : ∀ l : List Int, l.length ≤ 140737488355328 → PFun P f [.sl (l.map (PV.int .i64))] (.bool true))
    {a : Option Addr} {len cap : Nat} {zs : List Int} {W : World} (hr : IsRow .i64 W a len cap zs) (hs : len * 8 ≤ 140737488351232) :
    Calls P f #[.slice a len cap] W fun e W' => e = .returned (.bool true) ∧ Below W.heap.size W W' := by
  have hF : ∀ β o, ¬ FX (fun _ _ => False) (fun _ => none) ([] : List (Nat × Nat × Nat)) β o := by
    rintro β o (h | h)
    · exact h
    · exact h
  have hM : MRel (fun _ _ => False) (fun _ => none) mem0 W :=
    { inj := fun β β' o h => by cases h
      bnd := fun β o h => by cases h
      xb := fun β o h => h.elim
      memlt := fun β o h => by cases h
      toklt := fun β o h => by cases h
      locin := fun β o h => by cases h
      deadlt := fun b h => by simp [Dead, mem0] at h
      blk := fun b k h => by simp [mem0] at h
      loc := fun d cs h => by simp [mem0, locGet_nil] at h
      tok := fun t e z h => by simp [mem0] at h }
  have hl : (zs.take len).length ≤ 140737488355328 := by
    have : (zs.take len).length ≤ len := List.length_take_le _ _
    omega
  have hc : ACall P f [.p (.sl ((zs.take len).map (PV.int .i64)))] mem0 fun r S => r = .p (.bool true) := PFun.acall (pvs := [.sl ((zs.take len).map (PV.int .i64))]) (h _ hl) rfl rfl
  refine (hc.2 (fun _ _ => False) (fun _ => none) W #[.slice a len cap] hM rfl ?_).mono ?_
  · intro k r v h1 h2
    match k with
    | 0 =>
      simp only [List.getElem?_cons_zero, Option.some.injEq, List.getElem?_toArray] at h1 h2
      subst h1
      subst h2
      exact .p (rep_ints hF hr)
    | k + 1 => simp at h1
  · rintro e W' ⟨v, r, S', ow', rfl, rfl, hM', hv, tr, _⟩
    cases hv with | p hv => cases hv with | bool =>
    exact ⟨rfl, tr.os, tr.tape, tr.output, tr.size, fun β hb => (tr.fr β hb rfl).2⟩

/-- A row's slice of whole numbers is no longer than its weight allows. -/
theorem sized {H : Type} {enc : TypeId × Value → H} {P : Program} {W : World} {base : Nat} {spare : Nat → Bool} {held : Bool} {t e : TypeId} {k : IntKind} {a : Option Addr} {len cap : Nat} {d : DataW H} {ps : List MemPlace} {ts : List TypeId} {ds : List (DataW H)} {j : Nat}
    (hsz : (DataW.weightsEach P ts ds).all (· ≤ reachBytes) = true) (ht : ts[j]? = some t) (hd : ds[j]? = some d) (hu : P.underlying t = some (.slice e)) (he : P.underlying e = some (.int k)) (hc : P.cellsOf e = 1) {B : Nat} (hB : P.bytesOf e = B)
    (h : DataW.Trod enc P W base spare held t (.slice a len cap) d ps) : len * B ≤ 140737488351232 := by
  obtain ⟨fuel, hf⟩ := h
  rcases open_ints hu he hc hf with ⟨hcs, _⟩ | ⟨x, l, c, zs, hcs, _, hl, _, hz, hx, _, _⟩
  · simp [Value.cells] at hcs
    obtain ⟨rfl, rfl, rfl⟩ := hcs
    simp
  · simp [Value.cells] at hcs
    obtain ⟨rfl, rfl, rfl⟩ := hcs
    obtain ⟨hx, _⟩ := Prod.mk.inj hx
    subst hx
    have z := sized_slice hsz ht hd hu
    rw [hB] at z
    have hl2 : len ≤ zs.length := by
      rw [hz]
      split
      · exact hl
      · exact Nat.le_refl _
    have h1 : (lits (H := H) k (zs.take len)).length + (lits (H := H) k (zs.drop len)).length = zs.length := by
      simp [lits]
      omega
    rw [h1] at z
    exact Nat.le_trans (Nat.mul_le_mul_right _ hl2) z
end Go.Ag
/- 'gatewarden/gatekeep2.ScopesAgree': for every list of whole numbers the law returns true, and the list reads behind the call as it read before; condition: the listed variables of Go's library hold what the program's text lays, which the card ties. -/
namespace Go.Proofs.YtkfnogdkfedaaaaGreatDoor.scopesAgree
open Go.ChangeShapes Go.WideShapes Go.ChangeAt Go.RowKit
set_option linter.unusedVariables false
theorem own : ownKnob Tryz.prog.godebug = none := by kernel_rfl
theorem laidOut : laidOutB Tryz.prog = true := by kernel_rfl
set_option maxRecDepth 100000 in
theorem lifted (os : Os) (started : os.Started) (H : Type) (enc : TypeId × Value → H) :
    ReturnsInHanded {} Tryz.checked os 6 .any (fun w args => (Rows.scopesAgreeSpec.pre enc Tryz.prog Tryz.f6 Rows.scopesAgreeRow.domain false w args ∧ laidMetH Tryz.prog Rows.scopesAgreeRow.laid w) ∧ sizedMet enc Tryz.prog Tryz.f6 (OpenSpec.ofChange Rows.scopesAgreeSpec) false w args)
      (Rows.scopesAgreeSpec.post enc Tryz.prog Tryz.f6 false true false false) := by
  refine returnsInHanded_of_change_and (C := Tryz.checked) (X := fun w _ => laidMetH Tryz.prog Rows.scopesAgreeRow.laid w) (fun _ _ _ hh h => h.of_heap hh) own started (by kernel_rfl) Tryz.func6
    (ChangeSpec.witness_shaped (enc := enc) (C := Tryz.checked) (os := os) (X := fun w _ => laidMetH Tryz.prog Rows.scopesAgreeRow.laid w) false (World.laidAll Tryz.prog os Rows.scopesAgreeRow.laid) #[.slice none 0 0] 8 (World.laidAll_os _ _ _)
      (World.shaped_of_ZipB (by kernel_rfl) (by kernel_rfl)) (by kernel_rfl) (by kernel_rfl) (by kernel_rfl)
      (by rw [MakeChecks.laidMetH_plain _ _ _ (by kernel_rfl)]; exact laidMet_laidAll _ (by kernel_rfl) (by kernel_rfl))) ?_
  intro W base args ds gs before hval0 hW hcnd hsz0 hL _
  have hsz : (DataW.weightsEach Tryz.prog (Tryz.f6.params.toList ++ Rows.scopesAgreeSpec.plain.varTypes Tryz.prog) (ds ++ gs)).all (· ≤ reachBytes) = true := hsz0
  have hval : ∀ (j : Nat) t v, Tryz.f6.params[j]? = some t → args[j]? = some v → Value.okWide Tryz.prog W .any base t v := hval0
  have hW' := hW
  obtain ⟨p, q, hA0, hV, rfl, hfz, hnd⟩ := hW
  have hA : DataW.TrodAll enc Tryz.prog W 0 (fun _ => true) true Tryz.f6.params.toList args.toList ds p := hA0
  rw [Tryz.params6] at hA hval hsz
  obtain ⟨v0, vs0, d0, ds0, p0, q0, hargs, rfl, rfl, h0, r0⟩ := trodAll_cons hA
  obtain ⟨rfl, rfl, rfl⟩ := trodAll_nil r0
  obtain rfl : args = #[v0] := by cases args; simp_all
  obtain ⟨rfl, rfl⟩ := trodVars_none hV
  obtain ⟨a0, len0, cap0, rfl⟩ := okWide_slice Tryz.underlying22 (hval 0 22 v0 rfl rfl)
  have k0 := h0
  have lt0 : ∀ x ∈ p0, x.block < W.heap.size := by obtain ⟨m, hm⟩ := k0; exact DataW.trod_lt m _ _ _ hm
  obtain ⟨z0, w0⟩ : ∃ zs, Go.Ag.IsRow .i64 W a0 len0 cap0 zs := by
    obtain ⟨fuel, hf⟩ := h0
    rcases open_ints Tryz.underlying22 Tryz.underlying3 (by kernel_rfl) hf with ⟨hcs, _⟩ | ⟨x, l, c, zs, hcs, _, hl, hm, hz, _, hcell, hwz⟩
    · simp [Value.cells] at hcs
      obtain ⟨rfl, rfl, rfl⟩ := hcs
      exact ⟨[], .inl ⟨rfl, rfl, rfl, rfl⟩⟩
    · simp [Value.cells] at hcs
      obtain ⟨rfl, rfl, rfl⟩ := hcs
      exact ⟨zs, .inr ⟨_, rfl, hl, hm, by simpa using hz, hcell, hwz⟩⟩
  have y0 : len0 * 8 ≤ 140737488351232 := Go.Ag.sized hsz (j := 0) (t := 22) rfl rfl Tryz.underlying22 Tryz.underlying3 (by kernel_rfl) (by kernel_rfl) h0
  clear hA0 hval0 hsz0 hsz
  refine (Go.Ag.PFun.row Go.Ag.law6 w0 y0).mono fun e W' ⟨he, bel⟩ => ?_
  subst he
  exact ⟨_, rfl, _, _, _, [], _, [], hW', trodAll_mk1 (shut_bool Tryz.underlying4 _), (trodAll_cons_mk (Below.trod laidOut (by kernel_rfl) (of_decide_eq_true (by kernel_rfl)) k0 bel lt0) trodAll_mk0), rfl, bel.frame _, fun h => by cases h⟩
set_option maxHeartbeats 0 in
theorem joined : joinedFacts Tryz.pinned.checked.prog 6 Tryz.f6 Rows.scopesAgreeSpec Rows.scopesAgreeRow = true := by
  simp only [joinedFacts, Bool.and_eq_true]
  refine ⟨⟨⟨⟨⟨⟨⟨⟨⟨⟨⟨⟨⟨⟨⟨⟨⟨⟨⟨⟨⟨⟨⟨⟨⟨⟨⟨⟨⟨⟨⟨?_, ?_⟩, ?_⟩, ?_⟩, ?_⟩, ?_⟩, ?_⟩, ?_⟩, ?_⟩, ?_⟩, ?_⟩, ?_⟩, ?_⟩, ?_⟩, ?_⟩, ?_⟩, ?_⟩, ?_⟩, ?_⟩, ?_⟩, ?_⟩, ?_⟩, ?_⟩, ?_⟩, ?_⟩, ?_⟩, ?_⟩, ?_⟩, ?_⟩, ?_⟩, ?_⟩, ?_⟩ <;> as_aux_lemma => kernel_rfl
theorem said : Rows.ScopesAgreeSaid :=
  OpenClaim.holds_of_wide 6 Tryz.f6 rfl rfl rfl rfl rfl rfl rfl ⟨rfl, rfl, rfl, rfl, rfl⟩ rfl rfl rfl rfl rfl (by kernel_rfl) Tryz.func6 joined
    (of_decide_eq_true (by kernel_rfl)) (by unfold Func.isWrapper; first | (rw [if_pos (by decide +kernel)]; kernel_rfl) | (rw [if_neg (by decide +kernel)]; exact ⟨rfl, rfl⟩))
    (fun os started H enc _ => lifted os started H enc)
theorem plain (f : FuncId) (fn : Func) (hf : Tryz.pinned.checked.prog.funcNamed Tryz.f6.name = some f) (hfn : Tryz.pinned.checked.prog.funcs[f]? = some fn) :
    true = Tryz.pinned.checked.prog.looks [] ∧ ∀ (j : Nat) t, fn.params[j]? = some t → Tryz.pinned.checked.prog.wantsStandIn t = false := by
  obtain rfl : f = 6 := Option.some.inj ((show Tryz.prog.funcNamed Tryz.f6.name = some 6 by kernel_rfl).symm.trans hf) |>.symm
  obtain rfl : fn = Tryz.f6 := (Option.some.inj (Tryz.func6.symm.trans hfn)).symm
  refine ⟨by kernel_rfl, fun j t ht => ?_⟩
  rw [Tryz.params6] at ht
  obtain rfl : t = 22 := by simpa using Array.mem_of_getElem? ht
  exact (show Tryz.prog.wantsStandIn 22 = false by kernel_rfl)
theorem card : Rows.ScopesAgreeCardSaid :=
  Claim7.holds_tied_plain_at .later [] _ _ _ _ said (fun _ h => by cases h) (by kernel_rfl) (fun _ h => by cases h) scopesAgree_row_tie rfl ⟨rfl, rfl⟩ (by kernel_rfl) rfl plain (by kernel_rfl)
#print axioms card
end Go.Proofs.YtkfnogdkfedaaaaGreatDoor.scopesAgree
namespace Go.Proofs.YtkfnogdkfedaaaaGreatDoor
theorem scopesAgree_card : Rows.ScopesAgreeCardSaid := scopesAgree.card
end Go.Proofs.YtkfnogdkfedaaaaGreatDoor
