/- Several texts of one proof in one file, one after another, each with its own head: the machine's side of a law and the plain side; conditions: those of each theorem. -/
import Derived.Test.YtkfnogdkfedaaaaGreatDoorMHeadersSet2
import Derived.Sort.Grow
import Derived.Sort.EncStr
import Derived.Below
import Derived.SizedLaws
import Derived.ChangeSlices
import Derived.Test.YtkfnogdkfedaaaaGreatDoorCards
import Derived.Test.YtkfnogdkfedaaaaGreatDoorTie
import Derived.WalkKit
import Derived.ProofKit
import Derived.OpenShut
import Derived.ShutString
import Derived.ChangeOld
import Derived.LaidMore
import Derived.Lay
import Derived.SevenTiedAt
import Derived.Stop.Joined
set_option linter.unusedVariables false
set_option linter.unusedSimpArgs false
/- PricesGrow: the stream's choices; small functions. -/
namespace Go.Ag
open Go
set_option linter.unusedVariables false
set_option linter.unusedSimpArgs false
set_option maxRecDepth 100000

theorem pf_evP {f : FuncId} {args : List PV} {rv : RV} {r : PV} (h : evFn tabP.find (fun _ _ _ => none) 200 20 f (args.map .p) mem0 = some (rv, mem0)) (hr : rv.still mem0 = some r) : PFun PG f args r := by
  refine (evFn_sound mix (BT.ok tabP tabP_ok) callOk_none 200 20 f _ mem0 _ _ rfl h).mono ?_
  rintro r' S'' ⟨rfl, rfl⟩
  exact hr
abbrev strs (xs : List (List UInt8)) : List PV := xs.map PV.str
def nine : List (List UInt8) := [[97], [97, 58, 42], [97, 58, 98], [97, 58, 98, 58, 42], [97, 58, 98, 58, 99], [98], [98, 58, 42], [98, 58, 99], [42]]
def kMaps : List UInt8 := [109, 97, 112, 115]
def kShop : List UInt8 := [115, 104, 111, 112]
def kOrders : List UInt8 := [111, 114, 100, 101, 114, 115]
theorem isScope_pf (s : List UInt8) (h : s ∈ kOrders :: nine) : PFun PG 150 [.str s] (.bool true) := by
  simp only [nine, kOrders, List.mem_cons, List.not_mem_nil, or_false] at h
  rcases h with rfl | rfl | rfl | rfl | rfl | rfl | rfl | rfl | rfl | rfl
  all_goals exact pf_evP (rv := .p (.bool true)) (by kernel_rfl) rfl

theorem some_sc (l : List Int) (a : Int) (rest : List Blk) (T : List (Nat × Nat × Nat)) (xs : List (List UInt8)) (hl : l.length ≤ 140737488355328) (h0 : 0 ≤ a) (h1 : a < 1000000000) (hx : 1 ≤ xs.length) (hx2 : xs.length ≤ 1000) :
    SC PG 18 [.ptr 0 0, .p (.sl (strs xs))] (stm l a rest T) fun r S' => ∃ v ∈ xs, r = .p (.str v) ∧ S' = stm l (a + 1) rest T := by
  have hlen : ((strs xs).length : Int) = xs.length := by simp
  refine walk_18 rfl (by simp) ?_
  constructor
  refine CallM.of rfl (next_sc l a _ rest T hl h0 h1 (by omega) (by omega)) ?_
  rintro r S' ⟨v, hv, rfl, rfl⟩
  constructor
  refine Elt.map hv.1 (by omega) fun x hx => ⟨rfl, ?_⟩
  constructor
  exact ⟨_, List.mem_of_getElem? hx, rfl, rfl⟩
theorem pick_sc (l : List Int) (a : Int) (rest : List Blk) (T : List (Nat × Nat × Nat)) (xs : List Int) (hl : l.length ≤ 140737488355328) (h0 : 0 ≤ a) (h1 : a < 1000000000) (hx : 1 ≤ xs.length) (hx2 : xs.length ≤ 1000) :
    SC PG 51 [.ptr 0 0, .p (ints xs)] (stm l a rest T) fun r S' => ∃ v ∈ xs, r = vi v ∧ S' = stm l (a + 1) rest T := by
  have hlen : ((xs.map (PV.int .i64)).length : Int) = xs.length := by simp
  refine walk_51 rfl (by simp) ?_
  constructor
  refine CallM.of rfl (next_sc l a _ rest T hl h0 h1 (by omega) (by omega)) ?_
  rintro r S' ⟨v, hv, rfl, rfl⟩
  constructor
  refine Elt.map hv.1 (by omega) fun x hx => ⟨rfl, ?_⟩
  constructor
  exact ⟨_, List.mem_of_getElem? hx, rfl, rfl⟩
theorem flip_sc (l : List Int) (a n : Int) (rest : List Blk) (T : List (Nat × Nat × Nat)) (hl : l.length ≤ 140737488355328) (h0 : 0 ≤ a) (h1 : a < 1000000000) (hn : 1 ≤ n) (hn2 : n ≤ 1000) :
    SC PG 12 [.ptr 0 0, vi n] (stm l a rest T) fun r S' => (r = vb true ∨ r = vb false) ∧ S' = stm l (a + 1) rest T := by
  refine walk_12 rfl (by simp) ?_
  constructor
  refine CallM.of rfl (next_sc l a _ rest T hl h0 h1 hn (by omega)) ?_
  rintro r S' ⟨v, hv, rfl, rfl⟩
  constructor
  refine ⟨fun h => ?_, fun h => ?_⟩
  · constructor; exact ⟨.inl rfl, rfl⟩
  · constructor; exact ⟨.inr rfl, rfl⟩

theorem stm_eq {l : List Int} {a a' : Int} {rest : List Blk} {T : Toks} (h : a = a') : stm l a rest T = stm l a' rest T := by rw [h]
theorem rsc_sc (l : List Int) (a : Int) (rest : List Blk) (T : Toks) (hl : l.length ≤ 140737488355328) (h0 : 0 ≤ a) (h1 : a < 900000000) :
    SC PG 28 [.ptr 0 0] (stm l a rest T) fun r S' => ∃ sc a' T', ((∀ s ∈ sc, s ∈ nine) ∧ sc.length ≤ 4) ∧ (a ≤ a' ∧ a' ≤ a + 5) ∧ Ext T T' ∧ Row T 1 9 (strs sc) T' r ∧ S' = stm l a' rest T' := by
  refine walk_28 rfl (by simp) ?_
  constructor
  refine CallM.of rfl (range_sc l a 0 4 rest T hl h0 (by omega) (by omega) (by omega) (by omega)) ?_
  rintro r S' ⟨n, hn, rfl, rfl⟩
  constructor
  refine LoopF.of (fun s : List (List UInt8) × RV × Toks => ([(0, .ptr 0 0), (3, s.2.1), (5, vi n), (6, vi s.1.length)], stm l (a + 1 + s.1.length) rest s.2.2)) (fun s => 4 - s.1.length) (fun s => (∀ x ∈ s.1, x ∈ nine) ∧ (s.1.length : Int) ≤ n ∧ Row T 1 9 (strs s.1) s.2.2 s.2.1 ∧ Ext T s.2.2) ([], .nsl true, T) ⟨by simp, by simp; omega, Row.nil, Ext.refl T⟩ rfl (stm_eq (by simp)) ?_
  rintro ⟨s, q, T1⟩ ⟨hs, hsn, hr, hx⟩
  simp only at hs hsn hr hx
  have hr2 := hr
  rcases hr with ⟨rfl, he⟩ | ⟨t, rfl, ht⟩
  all_goals
    constructor
    refine ⟨fun h2 => ?_, fun h2 => ?_⟩
    · have h2 : (s.length : Int) < n := h2
      constructor
      refine CallM.of rfl (some_sc l (a + 1 + s.length) rest _ nine hl (by omega) (by omega) (by decide) (by decide)) ?_
      rintro r S' ⟨v, hv, rfl, rfl⟩
      obtain ⟨t', T', k1, k2, k3⟩ := hr2.app (y := .str v) (b := 16) hx rfl (by simp [lim]; omega)
      constructor
      refine Opr.of (k1 _ rfl) ?_
      constructor
      refine ⟨by unfold inR; omega, ?_⟩
      refine ⟨(s ++ [v], .own (strs s ++ [.str v]) t', T'), ⟨?_, ?_, ?_, k3⟩, ?_, ?_, ?_⟩
      · intro x hx; simp at hx; rcases hx with h | rfl
        · exact hs x h
        · exact hv
      · simp; omega
      · simpa using k2
      · simp only [List.length_append, List.length_cons, List.length_nil]; omega
      · simp; rfl
      · exact stm_eq (by simp; omega)
    · constructor
      exact ⟨s, a + 1 + s.length, T1, ⟨hs, by omega⟩, ⟨by omega, by omega⟩, hx, hr2, rfl⟩

/-- A plan. -/
structure Pl where
  key : List UInt8
  prod : List UInt8
  base : Int
  free : Int
  tiers : List (Int × Int)
  limit : Int
  trial : Int
  asked : Bool
def tpv (t : Int × Int) : PV := .agg [.int .i64 t.1, .int .i64 t.2]
def Pl.cs (p : Pl) : List PV := [.str p.key, .str p.prod, .int .i64 p.base, .int .i64 p.free, .sl (p.tiers.map tpv), .int .i64 p.limit, .int .i64 p.trial, .bool p.asked]
def Pl.pv (p : Pl) : PV := .agg p.cs
/-- Tiers rise. -/
def Rise : Int → List (Int × Int) → Prop
  | _, [] => True
  | b, t :: r => b < t.1 ∧ t.1 ≤ 1000 ∧ 0 ≤ t.2 ∧ t.2 ≤ 1500 ∧ Rise t.1 r
structure Pl.ok (p : Pl) : Prop where
  prod : p.prod = kShop ∨ p.prod = kMaps
  base : 0 ≤ p.base ∧ p.base ≤ 3000
  free : 0 ≤ p.free ∧ p.free ≤ 100
  limit : -1 ≤ p.limit ∧ p.limit ≤ 1000
  trial : 0 ≤ p.trial ∧ p.trial ≤ 2
  few : p.tiers.length ≤ 3
  rise : Rise 0 p.tiers
  first : ∀ t ∈ p.tiers.head?, t.1 = 1
def prods (sc : List (List UInt8)) : PV := .sl [.agg [.str kMaps, .sl (strs sc)], .agg [.str kShop, .sl [.str kOrders]]]
def cat (sc : List (List UInt8)) (ps : List Pl) : PV := .agg [prods sc, .sl (ps.map Pl.pv)]
def four : List (List UInt8) := [[98, 105, 103], [102, 114, 101, 101], [109, 105, 100], [115, 109, 97, 108, 108]]
structure CatOk (sc : List (List UInt8)) (ps : List Pl) : Prop where
  hsc : (∀ s ∈ sc, s ∈ nine) ∧ sc.length ≤ 4
  hps : ∀ p ∈ ps, p.ok
  hkeys : (ps.map Pl.key).Sublist four
theorem key_pf (s : List UInt8) (h : s ∈ kMaps :: kShop :: four) : PFun PG 155 [.str s] (.bool true) := by
  simp only [four, kMaps, kShop, List.mem_cons, List.not_mem_nil, or_false] at h
  rcases h with rfl | rfl | rfl | rfl | rfl | rfl
  all_goals exact pf_evP (rv := .p (.bool true)) (by kernel_rfl) rfl
theorem scopes_pf (sc : List (List UInt8)) (h : ∀ s ∈ sc, s ∈ kOrders :: nine) (hl : sc.length ≤ 50) : PFun PG 89 [.sl (strs sc)] (.int .i64 0) := by
  have hlen : ((strs sc).length : Int) = sc.length := by simp
  refine walk_89 rfl (by simp) ?_
  constructor
  refine Cmp.no (by omega) ?_
  constructor
  refine LoopF.of (fun i : Nat => ([(8, .p (.sl (strs sc))), (9, vi (strs sc).length), (10, vi i)], mem0)) (fun i => sc.length - i) (fun i => i ≤ sc.length) 0 (Nat.zero_le _) rfl rfl ?_
  intro i hi
  constructor
  refine ⟨fun h1 => ?_, fun h1 => ?_⟩
  · rw [hlen] at h1
    constructor
    refine Elt.map (by omega) (by omega) fun x hx => ⟨rfl, ?_⟩
    constructor
    refine CallV.of (isScope_pf x (h x (List.mem_of_getElem? hx))) ?_
    constructor
    refine ⟨by unfold inR; omega, ?_⟩
    exact ⟨i + 1, by omega, by omega, rfl, rfl⟩
  · constructor
    exact ⟨rfl⟩
theorem prodAt_shop (X Y Z : PV) : PFun PG 108 [.agg [.sl [.agg [.str kMaps, X], .agg [.str kShop, Y]], Z], .str kShop] (.tup [.int .i64 1, .bool true]) :=
  pf_evP (rv := .tup [.p (.int .i64 1), .p (.bool true)]) (by kernel_rfl) rfl
theorem prodAt_maps (X Y Z : PV) : PFun PG 108 [.agg [.sl [.agg [.str kMaps, X], .agg [.str kShop, Y]], Z], .str kMaps] (.tup [.int .i64 0, .bool true]) :=
  pf_evP (rv := .tup [.p (.int .i64 0), .p (.bool true)]) (by kernel_rfl) rfl
theorem prods_pf (sc : List (List UInt8)) (h : (∀ s ∈ sc, s ∈ nine) ∧ sc.length ≤ 4) : PFun PG 166 [prods sc] (.int .i64 0) := by
  refine walk_166 rfl (by simp) ?_
  constructor
  refine Cmp.no (by simp) ?_
  constructor
  refine LoopF.of (fun i : Nat => ([(0, .p (prods sc)), (9, .p (prods sc)), (10, vi 2), (11, vi i)], mem0)) (fun i => 2 - i) (fun i => i ≤ 2) 0 (by omega) rfl rfl ?_
  intro i hi
  rcases (by omega : i = 0 ∨ i = 1 ∨ i = 2) with rfl | rfl | rfl
  · constructor
    refine Cmp.yes (by simp) ?_
    constructor
    refine Elt.mk' (by simp) rfl ⟨rfl, ?_⟩
    constructor
    refine CallV.of (key_pf kMaps (by decide)) ?_
    constructor
    refine Cmp.no (by simp) ?_
    constructor
    refine CallV.of (scopes_pf sc (fun s hs => List.mem_cons_of_mem _ (h.1 s hs)) (by omega)) ?_
    constructor
    refine Cmp.yes rfl ?_
    constructor
    refine ⟨by unfold inR; simp, ?_⟩
    exact ⟨1, by omega, by omega, rfl, rfl⟩
  · constructor
    refine Cmp.yes (by simp) ?_
    constructor
    refine Elt.mk' (by simp) rfl ⟨rfl, ?_⟩
    constructor
    refine CallV.of (key_pf kShop (by decide)) ?_
    constructor
    refine Cmp.yes (by simp) ?_
    constructor
    refine ⟨by unfold inR; simp, ?_⟩
    constructor
    refine Elt.mk' (by simp) rfl ⟨rfl, ?_⟩
    constructor
    refine Opr.of (r := .p (.bool false)) rfl ?_
    constructor
    refine CallV.of (scopes_pf [kOrders] (by simp) (by simp)) ?_
    constructor
    refine Cmp.yes rfl ?_
    constructor
    refine ⟨by unfold inR; simp, ?_⟩
    exact ⟨2, by omega, by omega, rfl, rfl⟩
  · constructor
    refine Cmp.no (by simp) ?_
    constructor
    exact ⟨rfl⟩
end Go.Ag
/- An abstract machine for Go functions: a row is sorted in its place (the shelf's contract, told in our words). -/
namespace Go.Ag
open Go
set_option linter.unusedVariables false
set_option linter.unusedSimpArgs false

theorem MRel.grow {X : Cells} {ow : Ow} {S : Mem} : ∀ (os : List Obj) (w : World), MRel X ow S w → MRel X ow S (Sort.grow w os.toArray) ∧ Tr X ow S.toks w ow S.toks (Sort.grow w os.toArray)
  | [], w, h => by
    rw [show Sort.grow w ([] : List Obj).toArray = w from Sort.grow_empty w]
    exact ⟨h, Tr.refl _ _ _ _⟩
  | o :: os, w, h => by
    obtain ⟨h1, t1⟩ := h.pushPlain o
    obtain ⟨h2, t2⟩ := MRel.grow os (w.alloc o) h1
    have e : Sort.grow (w.alloc o) os.toArray = Sort.grow w (o :: os).toArray := by
      rw [Sort.alloc_eq_grow, Sort.grow_grow]
      congr 1
      simp
    rw [e] at h2 t2
    exact ⟨h2, t1.trans t2⟩
theorem Enters.mk {P : Program} {f : FuncId} {fn : Func} {c : Code} (hf : P.funcs[f]? = some fn) (hb : fn.body = some c) (hn : notGor fn = true) : Enters P f := by
  intro zs w
  have : fn.name ≠ "runtime.NumGoroutine" := by simpa [notGor] using hn
  simp [callFunc, hf, hb, this]
/-- The order of strings. -/
def leStr (a b : List UInt8) : Bool := decide (a ≤ b)
theorem sort_sc {P : Program} {f : FuncId} (he : Enters P f)
    (hc : ∀ (blk off cap : Nat) (zs : List (List UInt8)) (w : World), Sort.Holds Proofs.encStr w blk off zs.toArray → blk < w.heap.size → zs.length < 4611686018427387904 →
      Calls P f #[.slice (some ⟨blk, off, none⟩) zs.length cap] w fun e w' => e = .returned (.tuple #[]) ∧ ∃ n os, w' = Sort.grow (Sort.putRow Proofs.encStr (Sort.ahead w n) blk off (zs.mergeSort leStr).toArray) os)
    {S : Mem} (hS : S.loc = []) {b ty : Nat} {xs : List (List UInt8)} (hb : S.mem[b]? = some (.cells ty (xs.map fun s => .p (.str s)))) (hx : xs.length < 4611686018427387904) :
    SC P f [.rs b 0 xs.length 1] S fun r S' => r = .tup [] ∧ S' = { S with mem := S.mem.set b (.cells ty ((xs.mergeSort leStr).map fun s => .p (.str s))) } := by
  refine ⟨he, fun X ow w vs hM hno hs hv => ?_⟩
  have hS' : ({ S with loc := [] } : Mem) = S := by cases S; simp at hS; subst hS; rfl
  rw [hS'] at hM
  have hs1 : vs.size = 1 := hs
  obtain ⟨v, rfl⟩ : ∃ v, vs = #[v] := by
    match vs, hs1 with
    | ⟨[v]⟩, _ => exact ⟨v, rfl⟩
  have hv0 := hv 0 _ _ rfl rfl
  cases hv0 with | rs _ _ _ _ β cap h hcap =>
  obtain ⟨hβ, _⟩ := hM.alive hb h
  obtain ⟨γ, hγ, us, fr, hh, hfr, hsz, hel⟩ := hM.cells hb
  obtain rfl := hM.inj _ _ _ hγ hβ
  have hlen := hsz.1
  rw [List.length_map] at hlen
  have hbnd := hM.bnd _ _ hβ
  have hcell : ∀ j (hj : j < xs.length), us[j]? = some (Proofs.encStr (xs[j]'hj)) := by
    intro j hj
    have h1 : us[j]? = some (us[j]'(by omega)) := Array.getElem?_eq_getElem (by omega)
    have h2 := hel j (.p (.str (xs[j]'hj))) _ (by rw [List.getElem?_map, List.getElem?_eq_getElem hj]; rfl) h1
    cases h2 with | p h2 =>
    generalize hu : us[j]'(by omega) = u at h2 h1
    cases h2
    exact h1
  have hH : Sort.Holds Proofs.encStr w γ 0 xs.toArray := by
    intro j hj
    have hj : j < xs.length := by simpa using hj
    refine ⟨?_, ?_⟩
    · unfold World.cell?
      simp only [hh, Nat.zero_add, Option.isSome_none, Bool.false_eq_true, if_false]
      rw [hcell j hj]
      simp [hj]
    · unfold World.frozen?
      simp only [hh, Nat.zero_add]
      have := hfr j (by omega)
      rw [Bool.eq_false_iff]
      intro h
      simp only [Bool.and_eq_true, decide_eq_true_eq] at h
      exact this h
  refine (hc γ 0 cap xs w hH hbnd hx).mono ?_
  rintro e w' ⟨rfl, n, os, rfl⟩
  generalize hsd : xs.mergeSort leStr = ys
  have hyl : ys.length = xs.length := by rw [← hsd, List.length_mergeSort]
  obtain ⟨m1, t1⟩ := hM.writeMem (o := 0) (l := ys.map fun s => .p (.str s)) (us := ys.map Proofs.encStr) hb hβ (by simp) (by simp; omega) (by
    intro k x v h1 h2
    rw [List.getElem?_map, Option.map_eq_some_iff] at h1 h2
    obtain ⟨s, h3, rfl⟩ := h1
    obtain ⟨s', h4, rfl⟩ := h2
    rw [h3] at h4
    cases h4
    exact .p (.str s))
  obtain ⟨e1, e2, e3, e4, e5⟩ := setCells_misc γ (ys.map Proofs.encStr) 0 w
  have hov : over (xs.map fun s => RV.p (.str s)) 0 (ys.map fun s => .p (.str s)) = ys.map fun s => .p (.str s) := by
    unfold over
    simp [hyl]
  rw [hov] at m1
  have hheap : (Sort.putRow Proofs.encStr (Sort.ahead w n) γ 0 ys.toArray).heap = (w.setCells γ 0 (ys.map Proofs.encStr)).heap := by
    apply Array.ext_getElem?
    intro k
    by_cases hk : γ = k
    · subst hk
      rw [setCells_row γ _ _ (ys.map Proofs.encStr) 0 us w hh (by simp; omega)]
      simp only [Sort.putRow, Sort.mapBlock, Sort.heap_ahead, Array.getElem?_modify, if_true, hh, Option.map_some, Sort.onCells]
      congr 2
      apply Array.ext_getElem?
      intro j
      simp only [Sort.putCells, Array.getElem?_mapIdx, List.getElem?_toArray]
      rw [over_get _ _ _ (by simp; omega)]
      simp only [Array.getElem?_toList, Nat.zero_le, true_and, Nat.zero_add, List.length_map, List.size_toArray, Nat.sub_zero, List.getElem?_map]
      by_cases hj : j < ys.length
      · rw [if_pos hj, Array.getElem?_eq_getElem (by omega), List.getElem?_eq_getElem hj]
        simp [hj]
      · rw [if_neg hj]
        cases us[j]? with
        | none => rfl
        | some u => simp [hj]
    · rw [e5 k (Ne.symm hk)]
      simp only [Sort.putRow, Sort.mapBlock, Sort.heap_ahead, Array.getElem?_modify, if_neg hk]
  have hw2 : ∀ w2 : World, w2 = Sort.putRow Proofs.encStr (Sort.ahead w n) γ 0 ys.toArray → w2.heap = (w.setCells γ 0 (ys.map Proofs.encStr)).heap ∧ w2.os = w.os ∧ w2.tape = w.tape ∧ w2.output = w.output := by
    rintro w2 rfl
    exact ⟨hheap, rfl, rfl, rfl⟩
  generalize Sort.putRow Proofs.encStr (Sort.ahead w n) γ 0 ys.toArray = w2 at hw2 ⊢
  obtain ⟨k1, k2, k3, k4⟩ := hw2 w2 rfl
  have m2 := m1.heap k1 (k2.trans e1.symm) (k3.trans e2.symm) (k4.trans e3.symm)
  have t2 : Tr X ow S.toks (w.setCells γ 0 (ys.map Proofs.encStr)) ow S.toks w2 := Tr.heap k1 (k2.trans e1.symm) (k3.trans e2.symm) (k4.trans e3.symm)
  obtain ⟨m3, t3⟩ := MRel.grow os.toList w2 m2
  simp only [Array.toArray_toList] at m3 t3
  refine ⟨.tuple #[], .tup [], _, ow, rfl, ⟨rfl, rfl⟩, hS, m3, hno, ?_, (t1.trans t2).trans t3⟩
  exact .tup [] #[] rfl (fun k x v h => by simp at h)
end Go.Ag
/- An abstract machine for Go functions: rows of strings in memory whose end is not known: looked at, written, cut. -/
namespace Go.Ag
open Go
set_option linter.unusedVariables false
set_option linter.unusedSimpArgs false

/-- Strings as cells. -/
abbrev pss (xs : List (List UInt8)) : List RV := xs.map fun s => .p (.str s)
theorem ia_rs {z b off len z' : Nat} {i : Int} (S : Mem) (h0 : 0 ≤ i) (h1 : i < len) : opA (.ia z) [.rs b off len z', .p (.int .i64 i)] S = some (.ptr b (off + i.toNat * z), S) := by
  simp [opA, oInt, iaA, h0, h1]
theorem ld_rs {b o ty : Nat} {S : Mem} {xs : List (List UInt8)} {x : List UInt8} (hb : S.mem[b]? = some (.cells ty (pss xs))) (hx : xs[o]? = some x) : opA (.ld none) [.ptr b o] S = some (.p (.str x), S) := by
  simp [opA, ldA, hb, ldCells, hx]
theorem over_map {α β : Type} (f : α → β) (xs ys : List α) (o : Nat) : over (xs.map f) o (ys.map f) = (over xs o ys).map f := by
  simp [over, List.map_take, List.map_drop]
theorem over_one {α : Type} {xs : List α} {o : Nat} (x : α) (h : o < xs.length) : over xs o [x] = xs.set o x := by
  apply List.ext_getElem?
  intro k
  rw [over_get _ _ _ (by simp; omega), List.getElem?_set]
  by_cases hk : o = k
  · subst hk
    rw [if_pos ⟨by omega, by simp⟩, if_pos rfl, if_pos h]
    simp
  · rw [if_neg (by simp; omega), if_neg hk]
theorem st_rs {b o ty : Nat} {S : Mem} {xs : List (List UInt8)} (x : List UInt8) (hb : S.mem[b]? = some (.cells ty (pss xs))) (ho : o < xs.length) :
    opA (.st 1) [.ptr b o, .p (.str x)] S = some (.top, { S with mem := S.mem.set b (.cells ty (pss (xs.set o x))) }) := by
  have h1 : over (pss xs) o [RV.p (.str x)] = pss (xs.set o x) := by
    have := over_map (fun s => RV.p (.str s)) xs [x] o
    rw [over_one x ho] at this
    exact this
  have h2 : o + 1 ≤ (pss xs).length := by simp; omega
  simp only [opA, stA, RV.solid, RV.cells, List.all_cons, List.all_nil, RV.isCell, PV.isCell, Bool.and_true, List.length_cons, List.length_nil, Nat.zero_add, beq_self_eq_true, Bool.and_self, if_true, hb, h2, h1, Option.map_some]
theorem clr_rs {b off len ty : Nat} {S : Mem} {xs : List (List UInt8)} (hb : S.mem[b]? = some (.cells ty (pss xs))) (ho : off + len ≤ xs.length) :
    opY (.clr 1 [.p (.str [])]) [.rs b off len 1] S = some (.p (.tup []), { S with mem := S.mem.set b (.cells ty (pss (over xs off (List.replicate len [])))) }) := by
  have h1 : over (pss xs) off (List.replicate len [RV.p (.str [])]).flatten = pss (over xs off (List.replicate len [])) := by
    have e : (List.replicate len [RV.p (.str [])]).flatten = (List.replicate len ([] : List UInt8)).map fun s => RV.p (.str s) := by
      rw [List.map_replicate, List.flatten_replicate_singleton]
    rw [e]
    exact over_map _ _ _ _
  have h2 : off + len * 1 ≤ (pss xs).length := by simp; omega
  simp only [opY, clrA, List.length_cons, List.length_nil, Nat.zero_add, List.all_cons, List.all_nil, RV.isCell, PV.isCell, Bool.and_self, and_self, if_true, hb, h2, h1]
theorem cut_from {b off len : Nat} {S : Mem} {k : Int} (h0 : 0 ≤ k) (h1 : k < len) : opA (.sll 1 true false) [.rs b off len 1, .p (.int .i64 k)] S = some (.rs b (off + k.toNat * 1) (len - k.toNat) 1, S) := by
  have e2 : ¬ k.toNat = len := by omega
  have e3 : k ≤ len := by omega
  by_cases e1 : k.toNat = 0
  · simp [opA, cutArgs, asInts, oInt, sllA, cutB, e1, h0, e3]
  · simp [opA, cutArgs, asInts, oInt, sllA, cutB, e1, e2, h0, e3]
theorem cut_to {b off len : Nat} {S : Mem} {k : Int} (h0 : 0 ≤ k) (h1 : k ≤ len) : opA (.sll 1 false true) [.rs b off len 1, .p (.int .i64 k)] S = some (.rs b off k.toNat 1, S) := by
  simp [opA, cutArgs, asInts, oInt, sllA, cutB, h0, h1]
theorem ia_nat {b len z' i : Nat} (S : Mem) (h : i < len) : opA (.ia 1) [.rs b 0 len z', .p (.int .i64 (i : Int))] S = some (.ptr b i, S) := by
  have := ia_rs (z := 1) (b := b) (off := 0) (len := len) (z' := z') (i := (i : Int)) S (by omega) (by omega)
  rw [this]
  simp
theorem ia_off {b off len z' i : Nat} (S : Mem) (h : i < len) : opA (.ia 1) [.rs b off len z', .p (.int .i64 (i : Int))] S = some (.ptr b (off + i), S) := by
  have := ia_rs (z := 1) (b := b) (off := off) (len := len) (z' := z') (i := (i : Int)) S (by omega) (by omega)
  rw [this]
  simp
theorem cut_nat {b len k : Nat} {S : Mem} (h : k < len) : opA (.sll 1 true false) [.rs b 0 len 1, .p (.int .i64 (k : Int))] S = some (.rs b k (len - k) 1, S) := by
  have := cut_from (b := b) (off := 0) (S := S) (k := (k : Int)) (len := len) (by omega) (by omega)
  rw [this]
  simp
theorem cut_tn {b off len k : Nat} {S : Mem} (h : k ≤ len) : opA (.sll 1 false true) [.rs b off len 1, .p (.int .i64 (k : Int))] S = some (.rs b off k 1, S) := by
  have := cut_to (b := b) (off := off) (S := S) (k := (k : Int)) (len := len) (by omega) (by omega)
  rw [this]
  simp
theorem app_new {ty bytes : Nat} {S : Mem} {q : Bool} {xs : List (List UInt8)} (hne : xs ≠ []) (hlim : xs.length * bytes ≤ lim) :
    opY (.appg 1 ty bytes) [.nsl q, .p (.sl (xs.map PV.str))] S = some (.rs S.mem.length 0 xs.length 1, { S with mem := S.mem ++ [.cells (2 * ty + 1) (pss xs)] }) := by
  have h1 : uni 1 (xs.map PV.str) = true := by
    rw [uni, List.all_eq_true]
    intro x hx
    obtain ⟨s, _, rfl⟩ := List.mem_map.1 hx
    rfl
  have h2 : (flat (xs.map PV.str)).map RV.p = pss xs := by
    clear hne hlim h1
    induction xs with
    | nil => rfl
    | cons x xs ih => rw [List.map_cons, flat_cons, List.map_append, ih]; rfl
  have h3 : ¬ xs.length = 0 := by cases xs <;> simp_all
  simp only [opY, growA, srcC, h1, if_true, List.length_map, h2, h3, if_false, hlim]
theorem chunk_one : ∀ (xs : List PV), chunk 1 xs.length xs = xs
  | [] => rfl
  | x :: xs => by
    show (if 1 = 1 then (x :: xs).headD .top else _) :: chunk 1 xs.length ((x :: xs).drop 1) = _
    rw [if_pos rfl, List.drop_one, List.tail_cons, chunk_one xs]
    rfl
theorem mapO_map {α β γ : Type} {f : β → Option γ} {g : α → β} {h : α → γ} (e : ∀ x, f (g x) = some (h x)) : ∀ l : List α, mapO f (l.map g) = some (l.map h)
  | [] => rfl
  | x :: l => by simp only [List.map_cons, mapO, e, mapO_map e l]
theorem still_rs {b k ty : Nat} {S : Mem} {xs : List (List UInt8)} (hb : S.mem[b]? = some (.cells ty (pss xs))) (hk : k ≤ xs.length) : (RV.rs b 0 k 1).still S = some (.sl ((xs.take k).map PV.str)) := by
  have h1 : sub (pss xs) 0 (k * 1) = some (pss (xs.take k)) := by
    unfold sub
    rw [if_pos (by simp; omega)]
    simp [List.map_take]
  have h2 : mapO (RV.stillN 5 S) (pss (xs.take k)) = some ((xs.take k).map PV.str) := mapO_map (g := fun s => RV.p (.str s)) (h := PV.str) (fun x => rfl) _
  have h3 : ((xs.take k).map PV.str).all (fun x => !x.isAgg) = true := by
    rw [List.all_eq_true]
    intro x hx
    obtain ⟨s, _, rfl⟩ := List.mem_map.1 hx
    rfl
  have h4 : ((xs.take k).map PV.str).length = k := by simp; omega
  have h5 := chunk_one ((xs.take k).map PV.str)
  rw [h4] at h5
  simp only [RV.still, RV.stillN, hb, h1, h2, h3, h5]
  simp
theorem low_pss (n m ty : Nat) (xs : List (List UInt8)) : (Blk.cells ty (pss xs)).low n m = true := by
  simp [Blk.low, RV.low]
end Go.Ag
/- An abstract machine for Go functions: rows of structures in memory that may be written. -/
namespace Go.Ag
open Go
set_option linter.unusedVariables false
set_option linter.unusedSimpArgs false
section
variable {α : Type} {c : α → List PV} {z : Nat}

/-- Structures of so many plain fields. -/
structure Fl (c : α → List PV) (z : Nat) : Prop where
  len : ∀ x, (c x).length = z
  cell : ∀ x, ∀ y ∈ c x, y.isCell = true
  two : 2 ≤ z
abbrev fz (c : α → List PV) (x : α) : List RV := (c x).map .p
abbrev rowz (c : α → List PV) (xs : List α) : List RV := xs.flatMap (fz c)
abbrev gz (c : α → List PV) (x : α) : PV := .agg (c x)
theorem rowz_len (h : Fl c z) : ∀ xs : List α, (rowz c xs).length = xs.length * z
  | [] => by simp
  | x :: xs => by
    rw [rowz, List.flatMap_cons, List.length_append, rowz_len h xs, List.length_map, h.len, List.length_cons, Nat.succ_mul]
    omega
theorem rowz_at (h : Fl c z) : ∀ {xs : List α} {i : Nat} {x : α} (_ : xs[i]? = some x) {k : Nat} (_ : k < z), (rowz c xs)[i * z + k]? = (fz c x)[k]?
  | [], i, x, hx, k, hk => by simp at hx
  | y :: xs, 0, x, hx, k, hk => by
    simp at hx
    subst hx
    rw [rowz, List.flatMap_cons, Nat.zero_mul, Nat.zero_add, List.getElem?_append_left (by rw [List.length_map, h.len]; exact hk)]
  | y :: xs, i + 1, x, hx, k, hk => by
    have hz : (fz c y).length = z := by rw [List.length_map, h.len]
    have e : (i + 1) * z + k - z = i * z + k := by rw [Nat.succ_mul]; omega
    rw [rowz, List.flatMap_cons, List.getElem?_append_right (by rw [hz, Nat.succ_mul]; omega), hz, e]
    exact rowz_at h (by simpa using hx) hk
theorem rowz_sub (h : Fl c z) {xs : List α} {i : Nat} {x : α} (hx : xs[i]? = some x) : sub (rowz c xs) (i * z) z = some (fz c x) := by
  have hi := (List.getElem?_eq_some_iff.1 hx).1
  have hle : i * z + z ≤ xs.length * z := by
    have := Nat.mul_le_mul_right z (show i + 1 ≤ xs.length by omega)
    rw [Nat.succ_mul] at this
    exact this
  unfold sub
  rw [if_pos (by rw [rowz_len h]; exact hle)]
  congr 1
  apply List.ext_getElem?
  intro k
  rw [List.getElem?_take]
  by_cases hk : k < z
  · rw [if_pos hk, List.getElem?_drop]
    exact rowz_at h hx hk
  · rw [if_neg hk, List.getElem?_eq_none (by rw [List.length_map, h.len]; omega)]
theorem rowz_over (h : Fl c z) : ∀ {xs : List α} {i : Nat} (y : α) (_ : i < xs.length), over (rowz c xs) (i * z) (fz c y) = rowz c (xs.set i y)
  | [], i, y, hi => by simp at hi
  | x :: xs, 0, y, hi => by
    have hx : (fz c x).length = z := by rw [List.length_map, h.len]
    have hy : (fz c y).length = z := by rw [List.length_map, h.len]
    rw [rowz, List.flatMap_cons, over, Nat.zero_mul, List.take_zero, List.nil_append, Nat.zero_add, hy, List.set_cons_zero, rowz, List.flatMap_cons, ← hx, List.drop_left]
  | x :: xs, i + 1, y, hi => by
    have hx : (fz c x).length = z := by rw [List.length_map, h.len]
    have ih := rowz_over h (xs := xs) (i := i) y (by simpa using hi)
    have e1 : (i + 1) * z = (fz c x).length + i * z := by rw [hx, Nat.succ_mul]; omega
    show over (fz c x ++ rowz c xs) ((i + 1) * z) (fz c y) = fz c x ++ rowz c (xs.set i y)
    rw [← ih, over, over, e1, List.take_length_add_append, Nat.add_assoc, List.drop_length_add_append]
    simp [List.append_assoc]
theorem rowz_take (h : Fl c z) {xs : List α} {k : Nat} (hk : k ≤ xs.length) : (rowz c xs).take (k * z) = rowz c (xs.take k) := by
  have e : rowz c xs = rowz c (xs.take k) ++ rowz c (xs.drop k) := by
    rw [rowz, rowz, rowz, ← List.flatMap_append, List.take_append_drop]
  rw [e, List.take_left' (by rw [rowz_len h, List.length_take, Nat.min_eq_left hk])]
theorem rowz_clr (h : Fl c z) {xs : List α} {k n : Nat} (zero : α) (hk : k + n = xs.length) : over (rowz c xs) (k * z) (List.replicate n (fz c zero)).flatten = rowz c (xs.take k ++ List.replicate n zero) := by
  have e1 : (List.replicate n (fz c zero)).flatten = rowz c (List.replicate n zero) := by
    rw [rowz, List.flatMap_replicate]
  have e2 : (rowz c xs).drop (k * z + (rowz c (List.replicate n zero)).length) = [] := by
    rw [List.drop_eq_nil_iff, rowz_len h, rowz_len h, List.length_replicate, ← hk, Nat.add_mul]
    exact Nat.le_refl _
  rw [e1, over, e2, rowz_take h (by omega), List.append_nil, rowz, rowz, ← List.flatMap_append]

theorem ia_z {b len z' i : Nat} (S : Mem) (hi : i < len) : opA (.ia z) [.rs b 0 len z', .p (.int .i64 (i : Int))] S = some (.ptr b (i * z), S) := by
  have := ia_rs (z := z) (b := b) (off := 0) (len := len) (z' := z') (i := (i : Int)) S (by omega) (by omega)
  rw [this]
  simp
theorem ld_z (h : Fl c z) {b i ty : Nat} {S : Mem} {xs : List α} {x : α} (hb : S.mem[b]? = some (.cells ty (rowz c xs))) (hx : xs[i]? = some x) : opA (.ld (some z)) [.ptr b (i * z)] S = some (.agg (fz c x), S) := by
  simp only [opA, ldA, hb, ldCells, rowz_sub h hx, Option.map_some]
theorem ld_zf (h : Fl c z) {b i k ty : Nat} {S : Mem} {xs : List α} {x : α} {v : RV} (hb : S.mem[b]? = some (.cells ty (rowz c xs))) (hx : xs[i]? = some x) (hk : k < z) (hv : (fz c x)[k]? = some v) : opA (.ld none) [.ptr b (i * z + k)] S = some (v, S) := by
  simp only [opA, ldA, hb, ldCells, rowz_at h hx hk, hv, Option.map_some]
theorem st_z (h : Fl c z) {b i ty : Nat} {S : Mem} {xs : List α} (y : α) (hb : S.mem[b]? = some (.cells ty (rowz c xs))) (hi : i < xs.length) :
    opA (.st z) [.ptr b (i * z), .agg (fz c y)] S = some (.top, { S with mem := S.mem.set b (.cells ty (rowz c (xs.set i y))) }) := by
  have h1 : (fz c y).all RV.isCell = true := by
    rw [List.all_eq_true]
    intro v hv
    obtain ⟨q, hq, rfl⟩ := List.mem_map.1 hv
    exact h.cell y q hq
  have h2 : (fz c y).length = z := by rw [List.length_map, h.len]
  have h3 : i * z + z ≤ (rowz c xs).length := by
    rw [rowz_len h, ← Nat.succ_mul]
    exact Nat.mul_le_mul_right z hi
  simp only [opA, stA, RV.solid, RV.cells, h1, h2, beq_self_eq_true, Bool.and_self, if_true, hb, h3, rowz_over h y hi, Option.map_some]
/-- One field is written. -/
theorem st_zf (h : Fl c z) {b i k ty : Nat} {S : Mem} {xs : List α} {x y : α} {v : PV} (hb : S.mem[b]? = some (.cells ty (rowz c xs))) (hx : xs[i]? = some x) (hk : k < z) (hy : c y = (c x).set k v) (hv : v.isCell = true) (hs : (RV.p v).solid = true) (hc : (RV.p v).cells = [.p v]) :
    opA (.st 1) [.ptr b (i * z + k), .p v] S = some (.top, { S with mem := S.mem.set b (.cells ty (rowz c (xs.set i y))) }) := by
  have hi := (List.getElem?_eq_some_iff.1 hx).1
  have h3 : i * z + k + 1 ≤ (rowz c xs).length := by
    rw [rowz_len h]
    have := Nat.mul_le_mul_right z (show i + 1 ≤ xs.length by omega)
    rw [Nat.succ_mul] at this
    omega
  have h4 : over (rowz c xs) (i * z + k) [RV.p v] = rowz c (xs.set i y) := by
    rw [over_one (RV.p v) (by omega), ← rowz_over h y hi]
    apply List.ext_getElem?
    intro j
    have hz : (fz c y).length = z := by rw [List.length_map, h.len]
    have h5 : i * z + z ≤ (rowz c xs).length := by
      rw [rowz_len h, ← Nat.succ_mul]
      exact Nat.mul_le_mul_right z hi
    rw [over_get _ _ _ (by rw [hz]; omega), hz, List.getElem?_set]
    have hy2 : fz c y = (fz c x).set k (.p v) := by rw [fz, hy, List.map_set]
    by_cases hj : i * z ≤ j ∧ j < i * z + z
    · rw [if_pos hj, hy2, List.getElem?_set]
      by_cases hjk : i * z + k = j
      · subst hjk
        rw [if_pos rfl, if_pos (by omega), if_pos (by omega), if_pos (by rw [List.length_map, h.len]; omega)]
      · rw [if_neg hjk, if_neg (by omega)]
        have := rowz_at h hx (k := j - i * z) (by omega)
        rw [← this]
        congr 1
        omega
    · rw [if_neg hj, if_neg (by omega)]
  have hcell : (RV.p v).isCell = true := hv
  simp only [opA, stA, hs, hc, List.all_cons, List.all_nil, hcell, Bool.and_true, List.length_cons, List.length_nil, Nat.zero_add, beq_self_eq_true, Bool.and_self, if_true, hb, h3, h4, Option.map_some]
theorem clr_z (h : Fl c z) {b k n ty : Nat} {S : Mem} {xs : List α} (zero : α) (hb : S.mem[b]? = some (.cells ty (rowz c xs))) (hk : k + n = xs.length) {zc : List RV} (hzc : zc = fz c zero) :
    opY (.clr z zc) [.rs b (k * z) n z] S = some (.p (.tup []), { S with mem := S.mem.set b (.cells ty (rowz c (xs.take k ++ List.replicate n zero))) }) := by
  subst hzc
  have h1 : (fz c zero).all RV.isCell = true := by
    rw [List.all_eq_true]
    intro v hv
    obtain ⟨q, hq, rfl⟩ := List.mem_map.1 hv
    exact h.cell zero q hq
  have h2 : (fz c zero).length = z := by rw [List.length_map, h.len]
  have h3 : k * z + n * z ≤ (rowz c xs).length := by rw [rowz_len h, ← Nat.add_mul, hk]; exact Nat.le_refl _
  simp only [opY, clrA, h1, h2, and_self, if_true, hb, h3, rowz_clr h zero hk]
theorem cut_z {b len k : Nat} {S : Mem} (h : k < len) : opA (.sll z true false) [.rs b 0 len z, .p (.int .i64 (k : Int))] S = some (.rs b (k * z) (len - k) z, S) := by
  have e2 : ¬ k = len := by omega
  have e3 : (k : Int) ≤ len := by omega
  by_cases e1 : k = 0
  · subst e1
    simp [opA, cutArgs, asInts, oInt, sllA, cutB]
  · simp [opA, cutArgs, asInts, oInt, sllA, cutB, e1, e2, e3]
theorem cut_tz {b len k : Nat} {S : Mem} (h : k ≤ len) : opA (.sll z false true) [.rs b 0 len z, .p (.int .i64 (k : Int))] S = some (.rs b 0 k z, S) := by
  have e3 : (k : Int) ≤ len := by omega
  simp [opA, cutArgs, asInts, oInt, sllA, cutB, e3]
theorem uni_z (h : Fl c z) (xs : List α) : uni z (xs.map (gz c)) = true := by
  rw [uni, List.all_eq_true]
  intro x hx
  obtain ⟨s, _, rfl⟩ := List.mem_map.1 hx
  simp only [Bool.and_eq_true, beq_iff_eq, List.all_eq_true]
  exact ⟨h.len s, h.cell s⟩
theorem flat_z : ∀ xs : List α, (flat (xs.map (gz c))).map RV.p = rowz c xs
  | [] => rfl
  | x :: xs => by
    rw [List.map_cons, flat_cons, List.map_append, flat_z xs, rowz, rowz, List.flatMap_cons]
    rfl
theorem app_z (h : Fl c z) {ty bytes : Nat} {S : Mem} {q : Bool} {xs : List α} {x : RV} (hx : x = .p (.sl (xs.map (gz c))) ∨ ∃ t, x = .own (xs.map (gz c)) t) (hne : xs ≠ []) (hlim : xs.length * bytes ≤ lim) :
    opY (.appg z ty bytes) [.nsl q, x] S = some (.rs S.mem.length 0 xs.length z, { S with mem := S.mem ++ [.cells (2 * ty + 1) (rowz c xs)] }) := by
  have h1 := uni_z h xs
  have h2 := flat_z (c := c) xs
  have h3 : ¬ xs.length = 0 := by cases xs <;> simp_all
  rcases hx with rfl | ⟨t, rfl⟩
  · simp only [opY, growA, srcC, h1, if_true, List.length_map, h2, h3, if_false, hlim]
  · simp only [opY, growA, srcC, h1, if_true, List.length_map, h2, h3, if_false, hlim]
theorem chunk_z (h : Fl c z) : ∀ xs : List α, chunk z xs.length (xs.flatMap c) = xs.map (gz c)
  | [] => rfl
  | x :: xs => by
    have hz1 : ¬ z = 1 := by have := h.two; omega
    show (if z = 1 then _ else PV.agg ((x :: xs).flatMap c |>.take z)) :: chunk z xs.length (((x :: xs).flatMap c).drop z) = _
    rw [if_neg hz1, List.flatMap_cons, List.take_left' (h.len x), List.drop_left' (h.len x), chunk_z h xs]
    rfl
theorem still_z (h : Fl c z) {b k ty : Nat} {S : Mem} {xs : List α} (hb : S.mem[b]? = some (.cells ty (rowz c xs))) (hk : k ≤ xs.length) : (RV.rs b 0 k z).still S = some (.sl ((xs.take k).map (gz c))) := by
  have h1 : sub (rowz c xs) 0 (k * z) = some (rowz c (xs.take k)) := by
    unfold sub
    rw [if_pos (by rw [rowz_len h]; have := Nat.mul_le_mul_right z hk; omega), List.drop_zero, rowz_take h hk]
  have e : rowz c (xs.take k) = ((xs.take k).flatMap c).map RV.p := by rw [rowz, List.map_flatMap]
  have h2 : mapO (RV.stillN 5 S) (rowz c (xs.take k)) = some ((xs.take k).flatMap c) := by
    rw [e]
    have := mapO_map (f := RV.stillN 5 S) (g := RV.p) (h := id) (fun x => rfl) ((xs.take k).flatMap c)
    simpa using this
  have h4 : (xs.take k).length = k := by simp; omega
  have h5 := chunk_z h (xs.take k)
  rw [h4] at h5
  have h6 := h.two
  have h7 : z ≠ 0 ∧ (z = 1 → ((xs.take k).flatMap c).all (fun x => !x.isAgg) = true) := ⟨by omega, fun h => by omega⟩
  simp only [RV.still, RV.stillN, hb, h1, h2, h5, if_pos h7]
end
end Go.Ag
/- The abstract code of the functions that are walked through. -/
namespace Go.Ag
open Go
set_option linter.unusedVariables false
/- gatewarden/gatekeep2.HeadersSet -/
def h_4 : FHint := hn [19] [] [] [(0, [0]), (1, [3]), (2, [4, 5, 6]), (3, [4, 5, 6, 7, 8]), (4, [5, 6, 7, 8, 9, 10]), (5, [5, 6, 7, 8, 9, 10, 11, 12]), (6, [5, 6, 7, 8, 9, 10, 11, 12, 13, 14]), (7, [6, 8, 9, 10, 11, 12, 13, 14, 15, 16]), (8, [2])] []
def ir_4 : IFun := ⟨96, [.t 2],
 (.seq
  (.ops [
    ⟨(some 2), .op (.mv), [.k (.p (.bool false))], none⟩] (some [0]))
  (.seq
   (.ops [
     ⟨(some 17), .op (.mv), [.r 0], none⟩,
     ⟨(some 18), .op (.build [(.nsl true), (.p (.int .i64 0))] [(0, 1), (1, 1)] [0]), [.r 17], none⟩,
     ⟨(some 19), .op (.boxH 25), [.r 18], none⟩,
     ⟨(some 3), .op (.mv), [.r 19], none⟩] (some [3]))
   (.seq
    (.ops [
      ⟨(some 20), .op (.mv), [.r 3], none⟩,
      ⟨(some 21), .call 17, [.r 20, .k (.p (.int .i64 5))], none⟩,
      ⟨(some 22), .op (.mv), [.r 3], none⟩,
      ⟨(some 23), .op (.bsl 1), [.k (.p (.str [97, 99, 99, 101, 112, 116])), .k (.p (.str [88, 45, 79, 110, 101])), .k (.p (.str [110, 101, 119]))], none⟩,
      ⟨(some 24), .call 18, [.r 22, .r 23], none⟩,
      ⟨(some 25), .op (.mv), [.r 3], none⟩,
      ⟨(some 26), .op (.bsl 1), [.k (.p (.str [49])), .k (.p (.str [])), .k (.p (.str [122]))], none⟩,
      ⟨(some 27), .call 18, [.r 25, .r 26], none⟩,
      ⟨(some 4), .op (.mv), [.r 21], none⟩,
      ⟨(some 5), .op (.mv), [.r 24], none⟩,
      ⟨(some 6), .op (.mv), [.r 27], none⟩] (some [4, 5, 6]))
    (.seq
     (.ops [
       ⟨(some 29), .op (.mv), [.r 4], none⟩,
       ⟨(some 30), .op (.mv), [.r 5], none⟩,
       ⟨(some 31), .op (.mv), [.r 6], none⟩,
       ⟨(some 32), .callP 19, [.r 29, .r 30, .r 31], none⟩,
       ⟨(some 28), .op (.mv), [.r 32], none⟩,
       ⟨(some 33), .op (.ext 0), [.r 28], none⟩,
       ⟨(some 34), .op (.ext 1), [.r 28], none⟩,
       ⟨(some 7), .op (.mv), [.r 33], none⟩,
       ⟨(some 8), .op (.mv), [.r 34], none⟩] (some [4, 5, 6, 7, 8]))
     (.seq
      (.ops [
        ⟨(some 36), .op (.mv), [.r 4], none⟩,
        ⟨(some 37), .op (.mv), [.r 5], none⟩,
        ⟨(some 38), .callP 20, [.r 36, .r 37], none⟩,
        ⟨(some 35), .op (.mv), [.r 38], none⟩,
        ⟨(some 39), .op (.ext 0), [.r 35], none⟩,
        ⟨(some 40), .op (.ext 1), [.r 35], none⟩,
        ⟨(some 9), .op (.mv), [.r 39], none⟩,
        ⟨(some 10), .op (.mv), [.r 40], none⟩] (some [5, 6, 7, 8, 9, 10]))
      (.seq
       (.ops [
         ⟨(some 42), .op (.mv), [.r 7], none⟩,
         ⟨(some 43), .op (.mv), [.r 5], none⟩,
         ⟨(some 44), .callP 21, [.r 42, .r 43], none⟩,
         ⟨(some 41), .op (.mv), [.r 44], none⟩,
         ⟨(some 45), .op (.ext 0), [.r 41], none⟩,
         ⟨(some 46), .op (.ext 1), [.r 41], none⟩,
         ⟨(some 11), .op (.mv), [.r 45], none⟩,
         ⟨(some 12), .op (.mv), [.r 46], none⟩] (some [5, 6, 7, 8, 9, 10, 11, 12]))
       (.seq
        (.ops [
          ⟨(some 48), .op (.mv), [.r 9], none⟩,
          ⟨(some 49), .op (.mv), [.r 5], none⟩,
          ⟨(some 50), .callP 21, [.r 48, .r 49], none⟩,
          ⟨(some 47), .op (.mv), [.r 50], none⟩,
          ⟨(some 51), .op (.ext 0), [.r 47], none⟩,
          ⟨(some 52), .op (.ext 1), [.r 47], none⟩,
          ⟨(some 13), .op (.mv), [.r 51], none⟩,
          ⟨(some 14), .op (.mv), [.r 52], none⟩] (some [5, 6, 7, 8, 9, 10, 11, 12, 13, 14]))
        (.seq
         (.ops [
           ⟨(some 54), .op (.mv), [.r 7], none⟩,
           ⟨(some 55), .op (.mv), [.r 5], none⟩,
           ⟨(some 56), .callP 20, [.r 54, .r 55], none⟩,
           ⟨(some 53), .op (.mv), [.r 56], none⟩,
           ⟨(some 57), .op (.ext 0), [.r 53], none⟩,
           ⟨(some 58), .op (.ext 1), [.r 53], none⟩,
           ⟨(some 15), .op (.mv), [.r 57], none⟩,
           ⟨(some 16), .op (.mv), [.r 58], none⟩] (some [6, 8, 9, 10, 11, 12, 13, 14, 15, 16]))
         (.seq
          (.ops [
            ⟨(some 59), .op (.mv), [.r 8], none⟩,
            ⟨(some 60), .op (.bin .eql .num), [.r 59, .k (.p (.int .i64 0))], none⟩,
            ⟨(some 61), .op (.mv), [.r 60], none⟩,
            ⟨(some 62), .op (.mv), [.r 10], (some (61, true))⟩,
            ⟨(some 63), .op (.bin .eql .num), [.r 62, .k (.p (.int .i64 0))], (some (61, true))⟩,
            ⟨(some 64), .op (.pick), [.r 61, .r 63, .k (.p (.bool false))], none⟩,
            ⟨(some 65), .op (.mv), [.r 64], none⟩,
            ⟨(some 66), .op (.mv), [.r 12], (some (65, true))⟩,
            ⟨(some 67), .op (.bin .eql .num), [.r 66, .k (.p (.int .i64 0))], (some (65, true))⟩,
            ⟨(some 68), .op (.pick), [.r 65, .r 67, .k (.p (.bool false))], none⟩,
            ⟨(some 69), .op (.mv), [.r 68], none⟩,
            ⟨(some 70), .op (.mv), [.r 14], (some (69, true))⟩,
            ⟨(some 71), .op (.bin .eql .num), [.r 70, .k (.p (.int .i64 0))], (some (69, true))⟩,
            ⟨(some 72), .op (.pick), [.r 69, .r 71, .k (.p (.bool false))], none⟩,
            ⟨(some 73), .op (.mv), [.r 72], none⟩,
            ⟨(some 74), .op (.mv), [.r 16], (some (73, true))⟩,
            ⟨(some 75), .op (.bin .eql .num), [.r 74, .k (.p (.int .i64 0))], (some (73, true))⟩,
            ⟨(some 76), .op (.pick), [.r 73, .r 75, .k (.p (.bool false))], none⟩,
            ⟨(some 77), .op (.mv), [.r 76], none⟩,
            ⟨(some 78), .op (.mv), [.r 11], (some (77, true))⟩,
            ⟨(some 79), .op (.mv), [.r 6], (some (77, true))⟩,
            ⟨(some 80), .op (.bsl 1), [.r 79], (some (77, true))⟩,
            ⟨(some 81), .callP 22, [.r 78, .r 80], (some (77, true))⟩,
            ⟨(some 82), .op (.pick), [.r 77, .r 81, .k (.p (.bool false))], none⟩,
            ⟨(some 83), .op (.mv), [.r 82], none⟩,
            ⟨(some 84), .op (.mv), [.r 13], (some (83, true))⟩,
            ⟨(some 85), .op (.lenl), [.r 84], (some (83, true))⟩,
            ⟨(some 86), .op (.bin .eql .num), [.r 85, .k (.p (.int .i64 0))], (some (83, true))⟩,
            ⟨(some 87), .op (.pick), [.r 83, .r 86, .k (.p (.bool false))], none⟩,
            ⟨(some 88), .op (.mv), [.r 87], none⟩,
            ⟨(some 89), .op (.mv), [.r 9], (some (88, true))⟩,
            ⟨(some 90), .op (.mv), [.r 15], (some (88, true))⟩,
            ⟨(some 91), .callP 23, [.r 89, .r 90], (some (88, true))⟩,
            ⟨(some 92), .op (.pick), [.r 88, .r 91, .k (.p (.bool false))], none⟩,
            ⟨(some 93), .op (.mv), [.r 92], none⟩,
            ⟨(some 94), .callP 16, [], (some (93, true))⟩,
            ⟨(some 95), .op (.pick), [.r 93, .r 94, .k (.p (.bool false))], none⟩,
            ⟨(some 2), .op (.mv), [.r 95], none⟩] (some [2]))
          .ret)))))))))⟩
theorem tr_4 : trFn Go.Proofs.Tryz.prog h_4 Go.Proofs.Tryz.f4 = some ir_4 := by kernel_rfl
theorem walk_4 {args : List RV} {S : Mem} {Q : RV → Mem → Prop} (hS : S.loc = []) (ha : args.length ≤ 96) (h : fnF false Go.Proofs.Tryz.prog ir_4 args S Q) : SC Go.Proofs.Tryz.prog 4 args S Q := SC.walk mix Go.Proofs.Tryz.func4 tr_4 hS ha h
/- (*gatewarden/gatemake.Stream).RightHeaders -/
def h_17 : FHint := hn [] [] [] [(0, [0, 1]), (1, [0, 1, 5]), (2, [0, 5, 8, 9]), (3, [0, 5, 8, 9, 10]), (4, [0, 5, 8, 9]), (5, [0, 5, 8, 9]), (6, [4])] [(3, [0, 5, 8, 9])]
def ir_17_l0 : IR :=
 (.seq
  (.ops [
    ⟨(some 10), .op (.bin .lss .num), [.r 9, .r 8], none⟩] (some [0, 5, 8, 9, 10]))
  (.seq
   (.cond (.r 10)
    .skip
    (.exit 0))
   (.seq
    (.block 1
     (.ops [
       ⟨(some 11), .op (.mv), [.r 5], none⟩,
       ⟨(some 12), .op (.mv), [.r 0], none⟩,
       ⟨(some 13), .op (.bsl 1), [.k (.p (.str [97, 99, 99, 101, 112, 116])), .k (.p (.str [65, 99, 99, 101, 112, 116])), .k (.p (.str [120, 45, 111, 110, 101])), .k (.p (.str [88, 45, 84, 119, 111])), .k (.p (.str [99, 111, 111, 107, 105, 101])), .k (.p (.str [118, 97, 114, 121])), .k (.p (.str [99, 111, 110, 110, 101, 99, 116, 105, 111, 110])), .k (.p (.str [120, 45, 102, 111, 114, 119, 97, 114, 100, 101, 100, 45, 102, 111, 114])), .k (.p (.str [118, 105, 97])), .k (.p (.str [120, 45, 102, 111, 114, 119, 97, 114, 100, 101, 100, 45, 104, 111, 115, 116])), .k (.p (.str [116, 101]))], none⟩,
       ⟨(some 14), .call 18, [.r 12, .r 13], none⟩,
       ⟨(some 15), .op (.mv), [.r 0], none⟩,
       ⟨(some 16), .op (.bsl 1), [.k (.p (.str [49])), .k (.p (.str [120])), .k (.p (.str [97, 44, 32, 98])), .k (.p (.str [])), .k (.p (.str [120, 45, 111, 110, 101, 44, 32, 99, 108, 111, 115, 101])), .k (.p (.str [103, 119])), .k (.p (.str [49, 46, 50, 46, 51, 46, 52])), .k (.p (.str [53, 46, 54, 46, 55, 46, 56, 44, 32, 57, 46, 57, 46, 57, 46, 57]))], none⟩,
       ⟨(some 17), .call 18, [.r 15, .r 16], none⟩,
       ⟨(some 18), .op (.build [(.p (.str [])), (.p (.str []))] [(0, 1), (1, 1)] [0, 1]), [.r 14, .r 17], none⟩,
       ⟨(some 19), .op (.bsl 2), [.r 18], none⟩,
       ⟨(some 20), .op (.app 2 36 32 false), [.r 11, .r 19], none⟩,
       ⟨(some 5), .op (.mv), [.r 20], none⟩] (some [0, 5, 8, 9])))
    (.ops [
      ⟨(some 21), .op (.bin .add .num), [.r 9, .k (.p (.int .i64 1))], none⟩,
      ⟨(some 9), .op (.mv), [.r 21], none⟩] (some [0, 5, 8, 9])))))
def ir_17 : IFun := ⟨23, [.t 4],
 (.seq
  (.ops [
    ⟨(some 4), .op (.mv), [.k (.nsl true)], none⟩] (some [0, 1]))
  (.seq
   (.ops [
     ⟨(some 5), .op (.mv), [.k (.nsl true)], none⟩] (some [0, 1, 5]))
   (.seq
    (.seq
     (.ops [
       ⟨(some 6), .op (.mv), [.r 0], none⟩,
       ⟨(some 7), .op (.mv), [.r 1], none⟩,
       ⟨(some 8), .call 13, [.r 6, .k (.p (.int .i64 0)), .r 7], none⟩,
       ⟨(some 9), .op (.mv), [.k (.p (.int .i64 0))], none⟩] (some [0, 5, 8, 9]))
     (.block 0
      (.loop (some [0, 5, 8, 9]) ir_17_l0)))
    (.seq
     (.ops [
       ⟨(some 22), .op (.mv), [.r 5], none⟩,
       ⟨(some 4), .op (.mv), [.r 22], none⟩] (some [4]))
     .ret))))⟩
theorem tr_17 : trFn Go.Proofs.Tryz.prog h_17 Go.Proofs.Tryz.f17 = some ir_17 := by kernel_rfl
theorem walk_17 {args : List RV} {S : Mem} {Q : RV → Mem → Prop} (hS : S.loc = []) (ha : args.length ≤ 23) (h : fnF false Go.Proofs.Tryz.prog ir_17 args S Q) : SC Go.Proofs.Tryz.prog 17 args S Q := SC.walk mix Go.Proofs.Tryz.func17 tr_17 hS ha h
/- gatewarden/message.Set -/
def h_19 : FHint := hn [] [] [] [(0, [0, 1, 2]), (1, [0, 1, 2, 8]), (2, [0, 1, 2, 8, 14]), (3, [6, 7]), (4, [0, 1, 2, 18]), (5, [6, 7]), (6, [9]), (7, [9, 25]), (8, [6, 7]), (9, [6, 7])] []
def ir_19 : IFun := ⟨27, [.t 6, .t 7],
 (.seq
  (.ops [
    ⟨(some 6), .op (.mv), [.k (.nsl true)], none⟩,
    ⟨(some 7), .op (.mv), [.k (.p (.int .i64 0))], none⟩] (some [0, 1, 2]))
  (.seq
   (.seq
    (.ops [
      ⟨(some 10), .op (.mv), [.r 0], none⟩,
      ⟨(some 11), .op (.mv), [.r 1], none⟩,
      ⟨(some 12), .callP 75, [.r 10, .r 11], none⟩,
      ⟨(some 8), .op (.mv), [.r 12], none⟩] (some [0, 1, 2, 8]))
    (.seq
     (.ops [
       ⟨(some 13), .op (.mv), [.r 8], none⟩,
       ⟨(some 14), .op (.bin .neq .num), [.r 13, .k (.p (.int .i64 0))], none⟩] (some [0, 1, 2, 8, 14]))
     (.cond (.r 14)
      (.seq
       (.ops [
         ⟨(some 15), .op (.mv), [.r 8], none⟩,
         ⟨(some 6), .op (.mv), [.k (.nsl true)], none⟩,
         ⟨(some 7), .op (.mv), [.r 15], none⟩] (some [6, 7]))
       .ret)
      .skip)))
   (.seq
    (.seq
     (.ops [
       ⟨(some 16), .op (.mv), [.r 2], none⟩,
       ⟨(some 17), .callP 76, [.r 16], none⟩,
       ⟨(some 18), .op (.un .not), [.r 17], none⟩] (some [0, 1, 2, 18]))
     (.cond (.r 18)
      (.seq
       (.ops [
         ⟨(some 6), .op (.mv), [.k (.nsl true)], none⟩,
         ⟨(some 7), .op (.mv), [.k (.p (.int .i64 3))], none⟩] (some [6, 7]))
       .ret)
      .skip))
    (.seq
     (.ops [
       ⟨(some 19), .op (.mv), [.r 0], none⟩,
       ⟨(some 20), .op (.mv), [.r 1], none⟩,
       ⟨(some 21), .op (.mv), [.r 2], none⟩,
       ⟨(some 22), .callP 77, [.r 19, .r 20, .r 21], none⟩,
       ⟨(some 9), .op (.mv), [.r 22], none⟩] (some [9]))
     (.seq
      (.seq
       (.ops [
         ⟨(some 23), .op (.mv), [.r 9], none⟩,
         ⟨(some 24), .op (.lenl), [.r 23], none⟩,
         ⟨(some 25), .op (.bin .gtr .num), [.r 24, .k (.p (.int .i64 50))], none⟩] (some [9, 25]))
       (.cond (.r 25)
        (.seq
         (.ops [
           ⟨(some 6), .op (.mv), [.k (.nsl true)], none⟩,
           ⟨(some 7), .op (.mv), [.k (.p (.int .i64 2))], none⟩] (some [6, 7]))
         .ret)
        .skip))
      (.seq
       (.ops [
         ⟨(some 26), .op (.mv), [.r 9], none⟩,
         ⟨(some 6), .op (.mv), [.r 26], none⟩,
         ⟨(some 7), .op (.mv), [.k (.p (.int .i64 0))], none⟩] (some [6, 7]))
       .ret))))))⟩
theorem tr_19 : trFn Go.Proofs.Tryz.prog h_19 Go.Proofs.Tryz.f19 = some ir_19 := by kernel_rfl
theorem walk_19 {args : List RV} {S : Mem} {Q : RV → Mem → Prop} (hS : S.loc = []) (ha : args.length ≤ 27) (h : fnF false Go.Proofs.Tryz.prog ir_19 args S Q) : SC Go.Proofs.Tryz.prog 19 args S Q := SC.walk mix Go.Proofs.Tryz.func19 tr_19 hS ha h
/- gatewarden/message.set -/
def h_77 : FHint := hn [] [] [] [(0, [0, 1, 2]), (1, [0, 1, 2, 7]), (2, [0, 1, 2, 7, 8]), (3, [1, 2, 7, 8, 11, 12, 13]), (4, [1, 2, 7, 8, 11, 12, 13, 14]), (5, [1, 2, 7, 8, 10, 11, 12, 13]), (6, [1, 2, 7, 8, 10, 11, 12, 13, 17]), (8, [1, 2, 7, 8, 10, 11, 12, 13, 26]), (9, [1, 2, 7, 11, 12, 13]), (10, [1, 2, 7, 8, 11, 12, 13]), (7, [1, 2, 7, 8, 11, 12, 13]), (11, [1, 2, 7, 8, 11, 12, 13]), (12, [1, 2, 7, 38]), (13, [7]), (14, [6])] [(4, [1, 2, 7, 8, 11, 12, 13])]
def ir_77_l0 : IR :=
 (.seq
  (.ops [
    ⟨(some 14), .op (.bin .lss .num), [.r 13, .r 12], none⟩] (some [1, 2, 7, 8, 11, 12, 13, 14]))
  (.seq
   (.cond (.r 14)
    .skip
    (.exit 0))
   (.seq
    (.block 1
     (.seq
      (.ops [
        ⟨(some 15), .op (.ia 2), [.r 11, .r 13], none⟩,
        ⟨(some 16), .op (.ld (some 2)), [.r 15], none⟩,
        ⟨(some 10), .op (.allocL 10 [(.p (.str [])), (.p (.str []))]), [], none⟩,
        ⟨none, .op (.st 2), [.r 10, .r 16], none⟩] (some [1, 2, 7, 8, 10, 11, 12, 13]))
      (.block 2
       (.seq
        (.ops [
          ⟨(some 18), .op (.ld (some 2)), [.r 10], none⟩,
          ⟨(some 19), .op (.mv), [.r 1], none⟩,
          ⟨(some 20), .callP 138, [.r 18, .r 19], none⟩,
          ⟨(some 21), .op (.un .not), [.r 20], none⟩,
          ⟨(some 17), .op (.mv), [.r 21], none⟩] (some [1, 2, 7, 8, 10, 11, 12, 13, 17]))
        (.cond (.r 17)
         (.ops [
           ⟨(some 22), .op (.mv), [.r 7], none⟩,
           ⟨(some 23), .op (.ld (some 2)), [.r 10], none⟩,
           ⟨(some 24), .op (.bsl 2), [.r 23], none⟩,
           ⟨(some 25), .op (.app 2 36 32 false), [.r 22, .r 24], none⟩,
           ⟨(some 7), .op (.mv), [.r 25], none⟩] (some [1, 2, 7, 8, 11, 12, 13]))
         (.seq
          (.ops [
            ⟨(some 27), .op (.mv), [.r 8], none⟩,
            ⟨(some 28), .op (.un .not), [.r 27], none⟩,
            ⟨(some 26), .op (.mv), [.r 28], none⟩] (some [1, 2, 7, 8, 10, 11, 12, 13, 26]))
          (.cond (.r 26)
           (.seq
            (.ops [
              ⟨(some 29), .op (.mv), [.r 7], none⟩,
              ⟨(some 30), .op (.fa 0), [.r 10], none⟩,
              ⟨(some 31), .op (.ld none), [.r 30], none⟩,
              ⟨(some 32), .op (.mv), [.r 2], none⟩,
              ⟨(some 33), .op (.build [(.p (.str [])), (.p (.str []))] [(0, 1), (1, 1)] [0, 1]), [.r 31, .r 32], none⟩,
              ⟨(some 34), .op (.bsl 2), [.r 33], none⟩,
              ⟨(some 35), .op (.app 2 36 32 false), [.r 29, .r 34], none⟩,
              ⟨(some 7), .op (.mv), [.r 35], none⟩] (some [1, 2, 7, 11, 12, 13]))
            (.ops [
              ⟨(some 8), .op (.mv), [.k (.p (.bool true))], none⟩] (some [1, 2, 7, 8, 11, 12, 13])))
           .skip)))))))
    (.ops [
      ⟨(some 36), .op (.bin .add .num), [.r 13, .k (.p (.int .i64 1))], none⟩,
      ⟨(some 13), .op (.mv), [.r 36], none⟩] (some [1, 2, 7, 8, 11, 12, 13])))))
def ir_77 : IFun := ⟨46, [.t 6],
 (.seq
  (.ops [
    ⟨(some 6), .op (.mv), [.k (.nsl true)], none⟩] (some [0, 1, 2]))
  (.seq
   (.ops [
     ⟨(some 7), .op (.mv), [.k (.nsl true)], none⟩] (some [0, 1, 2, 7]))
   (.seq
    (.ops [
      ⟨(some 8), .op (.mv), [.k (.p (.bool false))], none⟩] (some [0, 1, 2, 7, 8]))
    (.seq
     (.seq
      (.ops [
        ⟨(some 11), .op (.mv), [.r 0], none⟩,
        ⟨(some 12), .op (.lenl), [.r 11], none⟩,
        ⟨(some 13), .op (.mv), [.k (.p (.int .i64 0))], none⟩] (some [1, 2, 7, 8, 11, 12, 13]))
      (.block 0
       (.loop (some [1, 2, 7, 8, 11, 12, 13]) ir_77_l0)))
     (.seq
      (.seq
       (.ops [
         ⟨(some 37), .op (.mv), [.r 8], none⟩,
         ⟨(some 38), .op (.un .not), [.r 37], none⟩] (some [1, 2, 7, 38]))
       (.cond (.r 38)
        (.ops [
          ⟨(some 39), .op (.mv), [.r 7], none⟩,
          ⟨(some 40), .op (.mv), [.r 1], none⟩,
          ⟨(some 41), .op (.mv), [.r 2], none⟩,
          ⟨(some 42), .op (.build [(.p (.str [])), (.p (.str []))] [(0, 1), (1, 1)] [0, 1]), [.r 40, .r 41], none⟩,
          ⟨(some 43), .op (.bsl 2), [.r 42], none⟩,
          ⟨(some 44), .op (.app 2 36 32 false), [.r 39, .r 43], none⟩,
          ⟨(some 7), .op (.mv), [.r 44], none⟩] (some [7]))
        .skip))
      (.seq
       (.ops [
         ⟨(some 45), .op (.mv), [.r 7], none⟩,
         ⟨(some 6), .op (.mv), [.r 45], none⟩] (some [6]))
       .ret))))))⟩
theorem tr_77 : trFn Go.Proofs.Tryz.prog h_77 Go.Proofs.Tryz.f77 = some ir_77 := by kernel_rfl
theorem walk_77 {args : List RV} {S : Mem} {Q : RV → Mem → Prop} (hS : S.loc = []) (ha : args.length ≤ 46) (h : fnF false Go.Proofs.Tryz.prog ir_77 args S Q) : SC Go.Proofs.Tryz.prog 77 args S Q := SC.walk mix Go.Proofs.Tryz.func77 tr_77 hS ha h
/- gatewarden/message.Get -/
def h_21 : FHint := hn [] [] [] [(0, [0, 1]), (1, [0, 1, 6]), (2, [0, 1, 6, 11]), (3, [4, 5]), (4, [4, 5])] []
def ir_21 : IFun := ⟨16, [.t 4, .t 5],
 (.seq
  (.ops [
    ⟨(some 4), .op (.mv), [.k (.nsl true)], none⟩,
    ⟨(some 5), .op (.mv), [.k (.p (.int .i64 0))], none⟩] (some [0, 1]))
  (.seq
   (.seq
    (.ops [
      ⟨(some 7), .op (.mv), [.r 0], none⟩,
      ⟨(some 8), .op (.mv), [.r 1], none⟩,
      ⟨(some 9), .callP 75, [.r 7, .r 8], none⟩,
      ⟨(some 6), .op (.mv), [.r 9], none⟩] (some [0, 1, 6]))
    (.seq
     (.ops [
       ⟨(some 10), .op (.mv), [.r 6], none⟩,
       ⟨(some 11), .op (.bin .neq .num), [.r 10, .k (.p (.int .i64 0))], none⟩] (some [0, 1, 6, 11]))
     (.cond (.r 11)
      (.seq
       (.ops [
         ⟨(some 12), .op (.mv), [.r 6], none⟩,
         ⟨(some 4), .op (.mv), [.k (.nsl true)], none⟩,
         ⟨(some 5), .op (.mv), [.r 12], none⟩] (some [4, 5]))
       .ret)
      .skip)))
   (.seq
    (.ops [
      ⟨(some 13), .op (.mv), [.r 0], none⟩,
      ⟨(some 14), .op (.mv), [.r 1], none⟩,
      ⟨(some 15), .callP 79, [.r 13, .r 14], none⟩,
      ⟨(some 4), .op (.mv), [.r 15], none⟩,
      ⟨(some 5), .op (.mv), [.k (.p (.int .i64 0))], none⟩] (some [4, 5]))
    .ret)))⟩
theorem tr_21 : trFn Go.Proofs.Tryz.prog h_21 Go.Proofs.Tryz.f21 = some ir_21 := by kernel_rfl
theorem walk_21 {args : List RV} {S : Mem} {Q : RV → Mem → Prop} (hS : S.loc = []) (ha : args.length ≤ 16) (h : fnF false Go.Proofs.Tryz.prog ir_21 args S Q) : SC Go.Proofs.Tryz.prog 21 args S Q := SC.walk mix Go.Proofs.Tryz.func21 tr_21 hS ha h
/- gatewarden/message.Values -/
def h_79 : FHint := hn [] [] [] [(0, [0, 1]), (1, [0, 1, 5]), (2, [1, 5, 8, 9, 10]), (3, [1, 5, 8, 9, 10, 11]), (4, [1, 5, 7, 8, 9, 10]), (5, [1, 5, 7, 8, 9, 10, 16]), (6, [1, 5, 8, 9, 10]), (7, [1, 5, 8, 9, 10]), (8, [4])] [(3, [1, 5, 8, 9, 10])]
def ir_79_l0 : IR :=
 (.seq
  (.ops [
    ⟨(some 11), .op (.bin .lss .num), [.r 10, .r 9], none⟩] (some [1, 5, 8, 9, 10, 11]))
  (.seq
   (.cond (.r 11)
    .skip
    (.exit 0))
   (.seq
    (.block 1
     (.seq
      (.ops [
        ⟨(some 12), .op (.ia 2), [.r 8, .r 10], none⟩,
        ⟨(some 13), .op (.ld (some 2)), [.r 12], none⟩,
        ⟨(some 7), .op (.allocL 7 [(.p (.str [])), (.p (.str []))]), [], none⟩,
        ⟨none, .op (.st 2), [.r 7, .r 13], none⟩] (some [1, 5, 7, 8, 9, 10]))
      (.seq
       (.ops [
         ⟨(some 14), .op (.ld (some 2)), [.r 7], none⟩,
         ⟨(some 15), .op (.mv), [.r 1], none⟩,
         ⟨(some 16), .callP 138, [.r 14, .r 15], none⟩] (some [1, 5, 7, 8, 9, 10, 16]))
       (.cond (.r 16)
        (.ops [
          ⟨(some 17), .op (.mv), [.r 5], none⟩,
          ⟨(some 18), .op (.fa 1), [.r 7], none⟩,
          ⟨(some 19), .op (.ld none), [.r 18], none⟩,
          ⟨(some 20), .op (.bsl 1), [.r 19], none⟩,
          ⟨(some 21), .op (.app 1 9 16 false), [.r 17, .r 20], none⟩,
          ⟨(some 5), .op (.mv), [.r 21], none⟩] (some [1, 5, 8, 9, 10]))
        .skip))))
    (.ops [
      ⟨(some 22), .op (.bin .add .num), [.r 10, .k (.p (.int .i64 1))], none⟩,
      ⟨(some 10), .op (.mv), [.r 22], none⟩] (some [1, 5, 8, 9, 10])))))
def ir_79 : IFun := ⟨24, [.t 4],
 (.seq
  (.ops [
    ⟨(some 4), .op (.mv), [.k (.nsl true)], none⟩] (some [0, 1]))
  (.seq
   (.ops [
     ⟨(some 5), .op (.mv), [.k (.nsl true)], none⟩] (some [0, 1, 5]))
   (.seq
    (.seq
     (.ops [
       ⟨(some 8), .op (.mv), [.r 0], none⟩,
       ⟨(some 9), .op (.lenl), [.r 8], none⟩,
       ⟨(some 10), .op (.mv), [.k (.p (.int .i64 0))], none⟩] (some [1, 5, 8, 9, 10]))
     (.block 0
      (.loop (some [1, 5, 8, 9, 10]) ir_79_l0)))
    (.seq
     (.ops [
       ⟨(some 23), .op (.mv), [.r 5], none⟩,
       ⟨(some 4), .op (.mv), [.r 23], none⟩] (some [4]))
     .ret))))⟩
theorem tr_79 : trFn Go.Proofs.Tryz.prog h_79 Go.Proofs.Tryz.f79 = some ir_79 := by kernel_rfl
theorem walk_79 {args : List RV} {S : Mem} {Q : RV → Mem → Prop} (hS : S.loc = []) (ha : args.length ≤ 24) (h : fnF false Go.Proofs.Tryz.prog ir_79 args S Q) : SC Go.Proofs.Tryz.prog 79 args S Q := SC.walk mix Go.Proofs.Tryz.func79 tr_79 hS ha h
/- gatewarden/message.Remove -/
def h_20 : FHint := hn [] [] [] [(0, [0, 1]), (1, [0, 1, 6]), (2, [0, 1, 6, 11]), (3, [4, 5]), (4, [4, 5])] []
def ir_20 : IFun := ⟨16, [.t 4, .t 5],
 (.seq
  (.ops [
    ⟨(some 4), .op (.mv), [.k (.nsl true)], none⟩,
    ⟨(some 5), .op (.mv), [.k (.p (.int .i64 0))], none⟩] (some [0, 1]))
  (.seq
   (.seq
    (.ops [
      ⟨(some 7), .op (.mv), [.r 0], none⟩,
      ⟨(some 8), .op (.mv), [.r 1], none⟩,
      ⟨(some 9), .callP 75, [.r 7, .r 8], none⟩,
      ⟨(some 6), .op (.mv), [.r 9], none⟩] (some [0, 1, 6]))
    (.seq
     (.ops [
       ⟨(some 10), .op (.mv), [.r 6], none⟩,
       ⟨(some 11), .op (.bin .neq .num), [.r 10, .k (.p (.int .i64 0))], none⟩] (some [0, 1, 6, 11]))
     (.cond (.r 11)
      (.seq
       (.ops [
         ⟨(some 12), .op (.mv), [.r 6], none⟩,
         ⟨(some 4), .op (.mv), [.k (.nsl true)], none⟩,
         ⟨(some 5), .op (.mv), [.r 12], none⟩] (some [4, 5]))
       .ret)
      .skip)))
   (.seq
    (.ops [
      ⟨(some 13), .op (.mv), [.r 0], none⟩,
      ⟨(some 14), .op (.mv), [.r 1], none⟩,
      ⟨(some 15), .callP 78, [.r 13, .r 14], none⟩,
      ⟨(some 4), .op (.mv), [.r 15], none⟩,
      ⟨(some 5), .op (.mv), [.k (.p (.int .i64 0))], none⟩] (some [4, 5]))
    .ret)))⟩
theorem tr_20 : trFn Go.Proofs.Tryz.prog h_20 Go.Proofs.Tryz.f20 = some ir_20 := by kernel_rfl
theorem walk_20 {args : List RV} {S : Mem} {Q : RV → Mem → Prop} (hS : S.loc = []) (ha : args.length ≤ 16) (h : fnF false Go.Proofs.Tryz.prog ir_20 args S Q) : SC Go.Proofs.Tryz.prog 20 args S Q := SC.walk mix Go.Proofs.Tryz.func20 tr_20 hS ha h
/- gatewarden/message.without -/
def h_78 : FHint := hn [3] [] [] [(0, [0, 3]), (1, [4])] []
def ir_78 : IFun := ⟨9, [.t 4],
 (.seq
  (.ops [
    ⟨(some 3), .op (.boxH 9), [.r 1], none⟩,
    ⟨(some 4), .op (.mv), [.k (.nsl true)], none⟩] (some [0, 3]))
  (.seq
   (.ops [
     ⟨(some 5), .op (.mv), [.r 0], none⟩,
     ⟨(some 6), .call 140, [.r 5], none⟩,
     ⟨(some 7), .op (.mkfn 141 0), [.r 3], none⟩,
     ⟨(some 8), .call 139, [.r 6, .r 7], none⟩,
     ⟨(some 4), .op (.mv), [.r 8], none⟩] (some [4]))
   .ret))⟩
theorem tr_78 : trFn Go.Proofs.Tryz.prog h_78 Go.Proofs.Tryz.f78 = some ir_78 := by kernel_rfl
theorem walk_78 {args : List RV} {S : Mem} {Q : RV → Mem → Prop} (hS : S.loc = []) (ha : args.length ≤ 9) (h : fnF false Go.Proofs.Tryz.prog ir_78 args S Q) : SC Go.Proofs.Tryz.prog 78 args S Q := SC.walk mix Go.Proofs.Tryz.func78 tr_78 hS ha h
/- gatewarden/message.without$1 -/
def h_141 : FHint := hn [] [] [] [(0, [1, 2]), (1, [3])] []
def ir_141 : IFun := ⟨7, [.t 3],
 (.seq
  (.ops [
    ⟨(some 2), .op (.boxL 2), [.r 0], none⟩,
    ⟨(some 3), .op (.mv), [.k (.p (.bool false))], none⟩] (some [1, 2]))
  (.seq
   (.ops [
     ⟨(some 4), .op (.ld (some 2)), [.r 2], none⟩,
     ⟨(some 5), .op (.ld none), [.r 1], none⟩,
     ⟨(some 6), .callP 138, [.r 4, .r 5], none⟩,
     ⟨(some 3), .op (.mv), [.r 6], none⟩] (some [3]))
   .ret))⟩
theorem tr_141 : trFn Go.Proofs.Tryz.prog h_141 Go.Proofs.Tryz.f141 = some ir_141 := by kernel_rfl
theorem walk_141 {args : List RV} {S : Mem} {Q : RV → Mem → Prop} (hS : S.loc = []) (ha : args.length ≤ 7) (h : fnF false Go.Proofs.Tryz.prog ir_141 args S Q) : SC Go.Proofs.Tryz.prog 141 args S Q := SC.walk mix Go.Proofs.Tryz.func141 tr_141 hS ha h
/- gatewarden/message.nameFault -/
def h_75 : FHint := hn [] [] [] [(0, [0, 1]), (1, [1, 5]), (2, [1, 5, 9]), (3, [4]), (4, [13]), (5, [4]), (6, [4])] []
def ir_75 : IFun := ⟨14, [.t 4],
 (.seq
  (.ops [
    ⟨(some 4), .op (.mv), [.k (.p (.int .i64 0))], none⟩] (some [0, 1]))
  (.seq
   (.seq
    (.ops [
      ⟨(some 6), .op (.mv), [.r 0], none⟩,
      ⟨(some 7), .callP 68, [.r 6], none⟩,
      ⟨(some 5), .op (.mv), [.r 7], none⟩] (some [1, 5]))
    (.seq
     (.ops [
       ⟨(some 8), .op (.mv), [.r 5], none⟩,
       ⟨(some 9), .op (.bin .neq .num), [.r 8, .k (.p (.int .i64 0))], none⟩] (some [1, 5, 9]))
     (.cond (.r 9)
      (.seq
       (.ops [
         ⟨(some 10), .op (.mv), [.r 5], none⟩,
         ⟨(some 4), .op (.mv), [.r 10], none⟩] (some [4]))
       .ret)
      .skip)))
   (.seq
    (.seq
     (.ops [
       ⟨(some 11), .op (.mv), [.r 1], none⟩,
       ⟨(some 12), .callP 124, [.r 11], none⟩,
       ⟨(some 13), .op (.un .not), [.r 12], none⟩] (some [13]))
     (.cond (.r 13)
      (.seq
       (.ops [
         ⟨(some 4), .op (.mv), [.k (.p (.int .i64 5))], none⟩] (some [4]))
       .ret)
      .skip))
    (.seq
     (.ops [
       ⟨(some 4), .op (.mv), [.k (.p (.int .i64 0))], none⟩] (some [4]))
     .ret))))⟩
theorem tr_75 : trFn Go.Proofs.Tryz.prog h_75 Go.Proofs.Tryz.f75 = some ir_75 := by kernel_rfl
theorem walk_75 {args : List RV} {S : Mem} {Q : RV → Mem → Prop} (hS : S.loc = []) (ha : args.length ≤ 14) (h : fnF false Go.Proofs.Tryz.prog ir_75 args S Q) : SC Go.Proofs.Tryz.prog 75 args S Q := SC.walk mix Go.Proofs.Tryz.func75 tr_75 hS ha h
/- gatewarden/message.CheckHeaders -/
def h_68 : FHint := hn [] [] [] [(0, [0]), (1, [0, 7]), (2, [2]), (3, [8, 9, 10]), (4, [8, 9, 10, 11]), (5, [4, 8, 9, 10]), (6, [4, 8, 9, 10, 17]), (7, [2]), (8, [8, 9, 10, 21]), (9, [2]), (10, [8, 9, 10]), (11, [2])] [(4, [8, 9, 10])]
def ir_68_l0 : IR :=
 (.seq
  (.ops [
    ⟨(some 11), .op (.bin .lss .num), [.r 10, .r 9], none⟩] (some [8, 9, 10, 11]))
  (.seq
   (.cond (.r 11)
    .skip
    (.exit 0))
   (.seq
    (.block 1
     (.seq
      (.ops [
        ⟨(some 12), .op (.ia 2), [.r 8, .r 10], none⟩,
        ⟨(some 13), .op (.ld (some 2)), [.r 12], none⟩,
        ⟨(some 4), .op (.allocL 4 [(.p (.str [])), (.p (.str []))]), [], none⟩,
        ⟨none, .op (.st 2), [.r 4, .r 13], none⟩] (some [4, 8, 9, 10]))
      (.seq
       (.seq
        (.ops [
          ⟨(some 14), .op (.fa 0), [.r 4], none⟩,
          ⟨(some 15), .op (.ld none), [.r 14], none⟩,
          ⟨(some 16), .callP 124, [.r 15], none⟩,
          ⟨(some 17), .op (.un .not), [.r 16], none⟩] (some [4, 8, 9, 10, 17]))
        (.cond (.r 17)
         (.seq
          (.ops [
            ⟨(some 2), .op (.mv), [.k (.p (.int .i64 5))], none⟩] (some [2]))
          .ret)
         .skip))
       (.seq
        (.ops [
          ⟨(some 18), .op (.fa 1), [.r 4], none⟩,
          ⟨(some 19), .op (.ld none), [.r 18], none⟩,
          ⟨(some 20), .callP 76, [.r 19], none⟩,
          ⟨(some 21), .op (.un .not), [.r 20], none⟩] (some [8, 9, 10, 21]))
        (.cond (.r 21)
         (.seq
          (.ops [
            ⟨(some 2), .op (.mv), [.k (.p (.int .i64 3))], none⟩] (some [2]))
          .ret)
         .skip)))))
    (.ops [
      ⟨(some 22), .op (.bin .add .num), [.r 10, .k (.p (.int .i64 1))], none⟩,
      ⟨(some 10), .op (.mv), [.r 22], none⟩] (some [8, 9, 10])))))
def ir_68 : IFun := ⟨23, [.t 2],
 (.seq
  (.ops [
    ⟨(some 2), .op (.mv), [.k (.p (.int .i64 0))], none⟩] (some [0]))
  (.seq
   (.seq
    (.ops [
      ⟨(some 5), .op (.mv), [.r 0], none⟩,
      ⟨(some 6), .op (.lenl), [.r 5], none⟩,
      ⟨(some 7), .op (.bin .gtr .num), [.r 6, .k (.p (.int .i64 50))], none⟩] (some [0, 7]))
    (.cond (.r 7)
     (.seq
      (.ops [
        ⟨(some 2), .op (.mv), [.k (.p (.int .i64 2))], none⟩] (some [2]))
      .ret)
     .skip))
   (.seq
    (.seq
     (.ops [
       ⟨(some 8), .op (.mv), [.r 0], none⟩,
       ⟨(some 9), .op (.lenl), [.r 8], none⟩,
       ⟨(some 10), .op (.mv), [.k (.p (.int .i64 0))], none⟩] (some [8, 9, 10]))
     (.block 0
      (.loop (some [8, 9, 10]) ir_68_l0)))
    (.seq
     (.ops [
       ⟨(some 2), .op (.mv), [.k (.p (.int .i64 0))], none⟩] (some [2]))
     .ret))))⟩
theorem tr_68 : trFn Go.Proofs.Tryz.prog h_68 Go.Proofs.Tryz.f68 = some ir_68 := by kernel_rfl
theorem walk_68 {args : List RV} {S : Mem} {Q : RV → Mem → Prop} (hS : S.loc = []) (ha : args.length ≤ 23) (h : fnF false Go.Proofs.Tryz.prog ir_68 args S Q) : SC Go.Proofs.Tryz.prog 68 args S Q := SC.walk mix Go.Proofs.Tryz.func68 tr_68 hS ha h
/- gatewarden/message.isNamed -/
def h_138 : FHint := hn [] [] [] [(0, [1, 2]), (1, [4])] []
def ir_138 : IFun := ⟨9, [.t 4],
 (.seq
  (.ops [
    ⟨(some 2), .op (.boxL 2), [.r 0], none⟩,
    ⟨(some 4), .op (.mv), [.k (.p (.bool false))], none⟩] (some [1, 2]))
  (.seq
   (.ops [
     ⟨(some 5), .op (.fa 0), [.r 2], none⟩,
     ⟨(some 6), .op (.ld none), [.r 5], none⟩,
     ⟨(some 7), .op (.mv), [.r 1], none⟩,
     ⟨(some 8), .callP 198, [.r 6, .r 7], none⟩,
     ⟨(some 4), .op (.mv), [.r 8], none⟩] (some [4]))
   .ret))⟩
theorem tr_138 : trFn Go.Proofs.Tryz.prog h_138 Go.Proofs.Tryz.f138 = some ir_138 := by kernel_rfl
theorem walk_138 {args : List RV} {S : Mem} {Q : RV → Mem → Prop} (hS : S.loc = []) (ha : args.length ≤ 9) (h : fnF false Go.Proofs.Tryz.prog ir_138 args S Q) : SC Go.Proofs.Tryz.prog 138 args S Q := SC.walk mix Go.Proofs.Tryz.func138 tr_138 hS ha h
/- slices.Equal[[]string,string] -/
def h_22 : FHint := hn [] [] [] [(0, [0, 1]), (1, [0, 1, 10]), (2, [4]), (3, [0, 1, 12, 13]), (4, [0, 1, 12, 13, 14]), (5, [0, 1, 5, 12, 13]), (6, [0, 1, 12, 13, 24]), (7, [4]), (8, [0, 1, 12, 13]), (9, [4])] [(4, [0, 1, 12, 13])]
def ir_22_l0 : IR :=
 (.seq
  (.ops [
    ⟨(some 14), .op (.bin .lss .num), [.r 13, .r 12], none⟩] (some [0, 1, 12, 13, 14]))
  (.seq
   (.cond (.r 14)
    .skip
    (.exit 0))
   (.seq
    (.block 1
     (.seq
      (.ops [
        ⟨(some 15), .op (.mv), [.r 13], none⟩,
        ⟨(some 5), .op (.mv), [.r 15], none⟩] (some [0, 1, 5, 12, 13]))
      (.seq
       (.opsD [
         ⟨(some 16), .op (.mv), [.r 0], none⟩,
         ⟨(some 17), .op (.mv), [.r 5], none⟩,
         ⟨(some 18), .op (.ia 1), [.r 16, .r 17], none⟩,
         ⟨(some 19), .op (.ld none), [.r 18], none⟩,
         ⟨(some 20), .op (.mv), [.r 1], none⟩,
         ⟨(some 21), .op (.mv), [.r 5], none⟩,
         ⟨(some 22), .op (.ia 1), [.r 20, .r 21], none⟩,
         ⟨(some 23), .op (.ld none), [.r 22], none⟩,
         ⟨(some 24), .op (.bin .neq .num), [.r 19, .r 23], none⟩] [] (some [0, 1, 12, 13, 24]))
       (.cond (.r 24)
        (.seq
         (.ops [
           ⟨(some 4), .op (.mv), [.k (.p (.bool false))], none⟩] (some [4]))
         .ret)
        .skip))))
    (.ops [
      ⟨(some 25), .op (.bin .add .num), [.r 13, .k (.p (.int .i64 1))], none⟩,
      ⟨(some 13), .op (.mv), [.r 25], none⟩] (some [0, 1, 12, 13])))))
def ir_22 : IFun := ⟨26, [.t 4],
 (.seq
  (.ops [
    ⟨(some 4), .op (.mv), [.k (.p (.bool false))], none⟩] (some [0, 1]))
  (.seq
   (.seq
    (.ops [
      ⟨(some 6), .op (.mv), [.r 0], none⟩,
      ⟨(some 7), .op (.lenl), [.r 6], none⟩,
      ⟨(some 8), .op (.mv), [.r 1], none⟩,
      ⟨(some 9), .op (.lenl), [.r 8], none⟩,
      ⟨(some 10), .op (.bin .neq .num), [.r 7, .r 9], none⟩] (some [0, 1, 10]))
    (.cond (.r 10)
     (.seq
      (.ops [
        ⟨(some 4), .op (.mv), [.k (.p (.bool false))], none⟩] (some [4]))
      .ret)
     .skip))
   (.seq
    (.seq
     (.ops [
       ⟨(some 11), .op (.mv), [.r 0], none⟩,
       ⟨(some 12), .op (.lenl), [.r 11], none⟩,
       ⟨(some 13), .op (.mv), [.k (.p (.int .i64 0))], none⟩] (some [0, 1, 12, 13]))
     (.block 0
      (.loop (some [0, 1, 12, 13]) ir_22_l0)))
    (.seq
     (.ops [
       ⟨(some 4), .op (.mv), [.k (.p (.bool true))], none⟩] (some [4]))
     .ret))))⟩
theorem tr_22 : trFn Go.Proofs.Tryz.prog h_22 Go.Proofs.Tryz.f22 = some ir_22 := by kernel_rfl
theorem walk_22 {args : List RV} {S : Mem} {Q : RV → Mem → Prop} (hS : S.loc = []) (ha : args.length ≤ 26) (h : fnF false Go.Proofs.Tryz.prog ir_22 args S Q) : SC Go.Proofs.Tryz.prog 22 args S Q := SC.walk mix Go.Proofs.Tryz.func22 tr_22 hS ha h
/- slices.Equal[[]gatewarden/api.Header,gatewarden/api.Header] -/
def h_23 : FHint := hn [] [] [] [(0, [0, 1]), (1, [0, 1, 10]), (2, [4]), (3, [0, 1, 12, 13]), (4, [0, 1, 12, 13, 14]), (5, [0, 1, 5, 12, 13]), (6, [0, 1, 12, 13, 24]), (7, [4]), (8, [0, 1, 12, 13]), (9, [4])] [(4, [0, 1, 12, 13])]
def ir_23_l0 : IR :=
 (.seq
  (.ops [
    ⟨(some 14), .op (.bin .lss .num), [.r 13, .r 12], none⟩] (some [0, 1, 12, 13, 14]))
  (.seq
   (.cond (.r 14)
    .skip
    (.exit 0))
   (.seq
    (.block 1
     (.seq
      (.ops [
        ⟨(some 15), .op (.mv), [.r 13], none⟩,
        ⟨(some 5), .op (.mv), [.r 15], none⟩] (some [0, 1, 5, 12, 13]))
      (.seq
       (.opsD [
         ⟨(some 16), .op (.mv), [.r 0], none⟩,
         ⟨(some 17), .op (.mv), [.r 5], none⟩,
         ⟨(some 18), .op (.ia 2), [.r 16, .r 17], none⟩,
         ⟨(some 19), .op (.ld (some 2)), [.r 18], none⟩,
         ⟨(some 20), .op (.mv), [.r 1], none⟩,
         ⟨(some 21), .op (.mv), [.r 5], none⟩,
         ⟨(some 22), .op (.ia 2), [.r 20, .r 21], none⟩,
         ⟨(some 23), .op (.ld (some 2)), [.r 22], none⟩,
         ⟨(some 24), .op (.y (.eqs true [.s, .s])), [.r 19, .r 23], none⟩] [] (some [0, 1, 12, 13, 24]))
       (.cond (.r 24)
        (.seq
         (.ops [
           ⟨(some 4), .op (.mv), [.k (.p (.bool false))], none⟩] (some [4]))
         .ret)
        .skip))))
    (.ops [
      ⟨(some 25), .op (.bin .add .num), [.r 13, .k (.p (.int .i64 1))], none⟩,
      ⟨(some 13), .op (.mv), [.r 25], none⟩] (some [0, 1, 12, 13])))))
def ir_23 : IFun := ⟨26, [.t 4],
 (.seq
  (.ops [
    ⟨(some 4), .op (.mv), [.k (.p (.bool false))], none⟩] (some [0, 1]))
  (.seq
   (.seq
    (.ops [
      ⟨(some 6), .op (.mv), [.r 0], none⟩,
      ⟨(some 7), .op (.lenl), [.r 6], none⟩,
      ⟨(some 8), .op (.mv), [.r 1], none⟩,
      ⟨(some 9), .op (.lenl), [.r 8], none⟩,
      ⟨(some 10), .op (.bin .neq .num), [.r 7, .r 9], none⟩] (some [0, 1, 10]))
    (.cond (.r 10)
     (.seq
      (.ops [
        ⟨(some 4), .op (.mv), [.k (.p (.bool false))], none⟩] (some [4]))
      .ret)
     .skip))
   (.seq
    (.seq
     (.ops [
       ⟨(some 11), .op (.mv), [.r 0], none⟩,
       ⟨(some 12), .op (.lenl), [.r 11], none⟩,
       ⟨(some 13), .op (.mv), [.k (.p (.int .i64 0))], none⟩] (some [0, 1, 12, 13]))
     (.block 0
      (.loop (some [0, 1, 12, 13]) ir_23_l0)))
    (.seq
     (.ops [
       ⟨(some 4), .op (.mv), [.k (.p (.bool true))], none⟩] (some [4]))
     .ret))))⟩
theorem tr_23 : trFn Go.Proofs.Tryz.prog h_23 Go.Proofs.Tryz.f23 = some ir_23 := by kernel_rfl
theorem walk_23 {args : List RV} {S : Mem} {Q : RV → Mem → Prop} (hS : S.loc = []) (ha : args.length ≤ 26) (h : fnF false Go.Proofs.Tryz.prog ir_23 args S Q) : SC Go.Proofs.Tryz.prog 23 args S Q := SC.walk mix Go.Proofs.Tryz.func23 tr_23 hS ha h
/- slices.DeleteFunc[[]gatewarden/api.Header,gatewarden/api.Header] -/
def h_139 : FHint := hn [] [] [] [(0, [0, 1]), (1, [0, 1, 5]), (2, [0, 1, 5, 12]), (3, [4]), (4, [0, 1, 5, 6]), (5, [0, 1, 5, 6, 19]), (7, [0, 1, 5, 6, 7]), (8, [0, 1, 5, 6, 7, 29]), (9, [0, 1, 5, 6]), (10, [0, 1, 5, 6]), (6, [0, 1, 5, 6]), (11, [0, 5]), (12, [4])] [(5, [0, 1, 5, 6])]
def ir_139_l0 : IR :=
 (.seq
  (.seq
   (.ops [
     ⟨(some 16), .op (.mv), [.r 6], none⟩,
     ⟨(some 17), .op (.mv), [.r 0], none⟩,
     ⟨(some 18), .op (.lenl), [.r 17], none⟩,
     ⟨(some 19), .op (.bin .lss .num), [.r 16, .r 18], none⟩] (some [0, 1, 5, 6, 19]))
   (.cond (.r 19)
    .skip
    (.exit 0)))
  (.seq
   (.block 1
    (.seq
     (.ops [
       ⟨(some 22), .op (.mv), [.r 0], none⟩,
       ⟨(some 23), .op (.mv), [.r 6], none⟩,
       ⟨(some 24), .op (.ia 2), [.r 22, .r 23], none⟩,
       ⟨(some 25), .op (.ld (some 2)), [.r 24], none⟩,
       ⟨(some 7), .op (.allocL 7 [(.p (.str [])), (.p (.str []))]), [], none⟩,
       ⟨none, .op (.st 2), [.r 7, .r 25], none⟩] (some [0, 1, 5, 6, 7]))
     (.seq
      (.ops [
        ⟨(some 26), .op (.mv), [.r 1], none⟩,
        ⟨(some 27), .op (.ld (some 2)), [.r 7], none⟩,
        ⟨(some 28), .callv, [.r 26, .r 27], none⟩,
        ⟨(some 29), .op (.un .not), [.r 28], none⟩] (some [0, 1, 5, 6, 7, 29]))
      (.cond (.r 29)
       (.seq
        (.ops [
          ⟨(some 30), .op (.mv), [.r 0], none⟩,
          ⟨(some 31), .op (.mv), [.r 5], none⟩,
          ⟨(some 32), .op (.ld (some 2)), [.r 7], none⟩,
          ⟨(some 33), .op (.ia 2), [.r 30, .r 31], none⟩,
          ⟨none, .op (.st 2), [.r 33, .r 32], none⟩] (some [0, 1, 5, 6]))
        (.ops [
          ⟨(some 34), .op (.mv), [.r 5], none⟩,
          ⟨(some 35), .op (.bin .add .num), [.r 34, .k (.p (.int .i64 1))], none⟩,
          ⟨(some 5), .op (.mv), [.r 35], none⟩] (some [0, 1, 5, 6])))
       .skip))))
   (.ops [
     ⟨(some 20), .op (.mv), [.r 6], none⟩,
     ⟨(some 21), .op (.bin .add .num), [.r 20, .k (.p (.int .i64 1))], none⟩,
     ⟨(some 6), .op (.mv), [.r 21], none⟩] (some [0, 1, 5, 6]))))
def ir_139 : IFun := ⟨42, [.t 4],
 (.seq
  (.ops [
    ⟨(some 4), .op (.mv), [.k (.nsl true)], none⟩] (some [0, 1]))
  (.seq
   (.ops [
     ⟨(some 8), .op (.mv), [.r 0], none⟩,
     ⟨(some 9), .op (.mv), [.r 1], none⟩,
     ⟨(some 10), .call 199, [.r 8, .r 9], none⟩,
     ⟨(some 5), .op (.mv), [.r 10], none⟩] (some [0, 1, 5]))
   (.seq
    (.seq
     (.ops [
       ⟨(some 11), .op (.mv), [.r 5], none⟩,
       ⟨(some 12), .op (.bin .eql .num), [.r 11, .k (.p (.int .i64 (-1)))], none⟩] (some [0, 1, 5, 12]))
     (.cond (.r 12)
      (.seq
       (.ops [
         ⟨(some 13), .op (.mv), [.r 0], none⟩,
         ⟨(some 4), .op (.mv), [.r 13], none⟩] (some [4]))
       .ret)
      .skip))
    (.seq
     (.seq
      (.ops [
        ⟨(some 14), .op (.mv), [.r 5], none⟩,
        ⟨(some 15), .op (.bin .add .num), [.r 14, .k (.p (.int .i64 1))], none⟩,
        ⟨(some 6), .op (.mv), [.r 15], none⟩] (some [0, 1, 5, 6]))
      (.block 0
       (.loop (some [0, 1, 5, 6]) ir_139_l0)))
     (.seq
      (.ops [
        ⟨(some 36), .op (.mv), [.r 0], none⟩,
        ⟨(some 37), .op (.mv), [.r 5], none⟩,
        ⟨(some 38), .op (.sll 2 true false), [.r 36, .r 37], none⟩,
        ⟨none, .op (.y (.clr 2 [(.p (.str [])), (.p (.str []))])), [.r 38], none⟩] (some [0, 5]))
      (.seq
       (.ops [
         ⟨(some 39), .op (.mv), [.r 0], none⟩,
         ⟨(some 40), .op (.mv), [.r 5], none⟩,
         ⟨(some 41), .op (.sll 2 false true), [.r 39, .r 40], none⟩,
         ⟨(some 4), .op (.mv), [.r 41], none⟩] (some [4]))
       .ret))))))⟩
theorem tr_139 : trFn Go.Proofs.Tryz.prog h_139 Go.Proofs.Tryz.f139 = some ir_139 := by kernel_rfl
theorem walk_139 {args : List RV} {S : Mem} {Q : RV → Mem → Prop} (hS : S.loc = []) (ha : args.length ≤ 42) (h : fnF false Go.Proofs.Tryz.prog ir_139 args S Q) : SC Go.Proofs.Tryz.prog 139 args S Q := SC.walk mix Go.Proofs.Tryz.func139 tr_139 hS ha h
/- slices.Clone[[]gatewarden/api.Header,gatewarden/api.Header] -/
def h_140 : FHint := hn [] [5] [7] [(0, [0]), (1, [0, 4]), (2, [2]), (3, [2])] []
def ir_140 : IFun := ⟨8, [.t 2],
 (.seq
  (.ops [
    ⟨(some 2), .op (.mv), [.k (.nsl true)], none⟩] (some [0]))
  (.seq
   (.seq
    (.ops [
      ⟨(some 3), .op (.mv), [.r 0], none⟩,
      ⟨(some 4), .op (.bin .eql .sl), [.r 3, .k (.nsl true)], none⟩] (some [0, 4]))
    (.cond (.r 4)
     (.seq
      (.ops [
        ⟨(some 2), .op (.mv), [.k (.nsl true)], none⟩] (some [2]))
      .ret)
     .skip))
   (.seq
    (.ops [
      ⟨(some 5), .op (.x (.bsl0)), [], none⟩,
      ⟨(some 6), .op (.mv), [.r 0], none⟩,
      ⟨(some 7), .op (.y (.appg 2 36 32)), [.r 5, .r 6], none⟩,
      ⟨(some 2), .op (.mv), [.r 7], none⟩] (some [2]))
    .ret)))⟩
theorem tr_140 : trFn Go.Proofs.Tryz.prog h_140 Go.Proofs.Tryz.f140 = some ir_140 := by kernel_rfl
theorem walk_140 {args : List RV} {S : Mem} {Q : RV → Mem → Prop} (hS : S.loc = []) (ha : args.length ≤ 8) (h : fnF false Go.Proofs.Tryz.prog ir_140 args S Q) : SC Go.Proofs.Tryz.prog 140 args S Q := SC.walk mix Go.Proofs.Tryz.func140 tr_140 hS ha h
/- slices.IndexFunc[[]gatewarden/api.Header,gatewarden/api.Header] -/
def h_199 : FHint := hn [] [] [] [(0, [0, 1]), (1, [0, 1, 7, 8]), (2, [0, 1, 7, 8, 9]), (3, [0, 1, 5, 7, 8]), (4, [0, 1, 5, 7, 8, 16]), (5, [4]), (6, [0, 1, 7, 8]), (7, [4])] [(2, [0, 1, 7, 8])]
def ir_199_l0 : IR :=
 (.seq
  (.ops [
    ⟨(some 9), .op (.bin .lss .num), [.r 8, .r 7], none⟩] (some [0, 1, 7, 8, 9]))
  (.seq
   (.cond (.r 9)
    .skip
    (.exit 0))
   (.seq
    (.block 1
     (.seq
      (.ops [
        ⟨(some 10), .op (.mv), [.r 8], none⟩,
        ⟨(some 5), .op (.mv), [.r 10], none⟩] (some [0, 1, 5, 7, 8]))
      (.seq
       (.ops [
         ⟨(some 11), .op (.mv), [.r 1], none⟩,
         ⟨(some 12), .op (.mv), [.r 0], none⟩,
         ⟨(some 13), .op (.mv), [.r 5], none⟩,
         ⟨(some 14), .op (.ia 2), [.r 12, .r 13], none⟩,
         ⟨(some 15), .op (.ld (some 2)), [.r 14], none⟩,
         ⟨(some 16), .callv, [.r 11, .r 15], none⟩] (some [0, 1, 5, 7, 8, 16]))
       (.cond (.r 16)
        (.seq
         (.ops [
           ⟨(some 17), .op (.mv), [.r 5], none⟩,
           ⟨(some 4), .op (.mv), [.r 17], none⟩] (some [4]))
         .ret)
        .skip))))
    (.ops [
      ⟨(some 18), .op (.bin .add .num), [.r 8, .k (.p (.int .i64 1))], none⟩,
      ⟨(some 8), .op (.mv), [.r 18], none⟩] (some [0, 1, 7, 8])))))
def ir_199 : IFun := ⟨19, [.t 4],
 (.seq
  (.ops [
    ⟨(some 4), .op (.mv), [.k (.p (.int .i64 0))], none⟩] (some [0, 1]))
  (.seq
   (.seq
    (.ops [
      ⟨(some 6), .op (.mv), [.r 0], none⟩,
      ⟨(some 7), .op (.lenl), [.r 6], none⟩,
      ⟨(some 8), .op (.mv), [.k (.p (.int .i64 0))], none⟩] (some [0, 1, 7, 8]))
    (.block 0
     (.loop (some [0, 1, 7, 8]) ir_199_l0)))
   (.seq
    (.ops [
      ⟨(some 4), .op (.mv), [.k (.p (.int .i64 (-1)))], none⟩] (some [4]))
    .ret)))⟩
theorem tr_199 : trFn Go.Proofs.Tryz.prog h_199 Go.Proofs.Tryz.f199 = some ir_199 := by kernel_rfl
theorem walk_199 {args : List RV} {S : Mem} {Q : RV → Mem → Prop} (hS : S.loc = []) (ha : args.length ≤ 19) (h : fnF false Go.Proofs.Tryz.prog ir_199 args S Q) : SC Go.Proofs.Tryz.prog 199 args S Q := SC.walk mix Go.Proofs.Tryz.func199 tr_199 hS ha h
end Go.Ag
/- The functions that are run: one more table. -/
namespace Go.Ag
open Go
noncomputable def tabH : BT := (.node 198 (trFn Go.Proofs.Tryz.prog (hn [] [] [] [(0, [0, 1]), (1, [0, 1, 5]), (2, [0, 1, 5, 6]), (3, [0, 1, 5, 6, 21]), (5, [0, 1, 5, 6, 7]), (6, [0, 1, 5, 6, 7, 8]), (7, [0, 1, 5, 6, 7, 8, 33]), (8, [0, 1, 5, 6, 7, 8, 36]), (9, [0, 1, 5, 6, 7, 8, 39]), (10, [0, 1, 5, 6, 7, 8]), (11, [0, 1, 5, 6, 54]), (12, [4]), (4, [0, 1, 5, 6]), (13, [4]), (14, [0, 1, 5]), (15, [0, 1]), (16, [1, 67]), (17, [1, 67, 68, 69]), (18, [1, 10, 67]), (19, [1, 10, 67, 73]), (20, [4]), (21, [1, 10, 11, 12, 67]), (22, [1, 10, 11, 67]), (23, [1, 10, 11, 67, 84]), (24, [1, 10, 11, 67, 87]), (25, [1, 10, 11, 67]), (26, [1, 10, 11, 67, 91]), (27, [1, 67, 104]), (28, [4]), (29, [1, 10, 11, 13, 67]), (30, [1, 10, 11, 13, 67, 114]), (31, [1, 10, 11, 13, 67]), (32, [1, 67, 119]), (33, [4]), (34, [4])] [(3, [0, 1, 5, 6]), (17, [1, 67]), (30, [1, 10, 11, 13, 67])]) Go.Proofs.Tryz.f198)
 (.node 141 (trFn Go.Proofs.Tryz.prog (hn [] [] [] [(0, [1, 2]), (1, [3])] []) Go.Proofs.Tryz.f141)
 (.node 137 (trFn Go.Proofs.Tryz.prog (hn [5] [] [] [(0, [0, 1]), (1, [0, 1, 12]), (2, [4]), (3, [0, 1, 21]), (4, [4]), (5, [0, 1, 5, 6]), (6, [0, 1, 5, 34]), (7, [4]), (8, [4])] []) Go.Proofs.Tryz.f137)
 (.node 124 (trFn Go.Proofs.Tryz.prog (hn [] [] [] [(0, [0]), (1, [0, 5, 6]), (2, [0, 5, 6, 7]), (3, [0, 3, 5, 6]), (4, [0, 5, 6, 13]), (5, [2]), (6, [0, 5, 6]), (7, [2])] [(2, [0, 5, 6])]) Go.Proofs.Tryz.f124)
 (.node 78 (trFn Go.Proofs.Tryz.prog (hn [3] [] [] [(0, [0, 3]), (1, [4])] []) Go.Proofs.Tryz.f78)
 (.node 76 (trFn Go.Proofs.Tryz.prog (hn [] [] [] [(0, [0]), (1, [2])] []) Go.Proofs.Tryz.f76)
 .leaf .leaf) .leaf) (.node 136 (trFn Go.Proofs.Tryz.prog (hn [] [] [] [(0, [0, 1, 2]), (1, [0, 1, 2, 9, 10]), (2, [0, 1, 2, 9, 10, 11]), (3, [0, 1, 2, 7, 9, 10]), (4, [0, 1, 2, 9, 10, 24]), (5, [6]), (6, [0, 1, 2, 9, 10]), (7, [6])] [(2, [0, 1, 2, 9, 10])]) Go.Proofs.Tryz.f136)
 .leaf .leaf)) (.node 139 (trFn Go.Proofs.Tryz.prog (hn [] [] [] [(0, [0, 1]), (1, [0, 1, 5]), (2, [0, 1, 5, 12]), (3, [4]), (4, [0, 1, 5, 6]), (5, [0, 1, 5, 6, 19]), (7, [0, 1, 5, 6, 7]), (8, [0, 1, 5, 6, 7, 29]), (9, [0, 1, 5, 6]), (10, [0, 1, 5, 6]), (6, [0, 1, 5, 6]), (11, [0, 5]), (12, [4])] [(5, [0, 1, 5, 6])]) Go.Proofs.Tryz.f139)
 (.node 138 (trFn Go.Proofs.Tryz.prog (hn [] [] [] [(0, [1, 2]), (1, [4])] []) Go.Proofs.Tryz.f138)
 .leaf .leaf) (.node 140 (trFn Go.Proofs.Tryz.prog (hn [] [5] [7] [(0, [0]), (1, [0, 4]), (2, [2]), (3, [2])] []) Go.Proofs.Tryz.f140)
 .leaf .leaf))) (.node 194 (trFn Go.Proofs.Tryz.prog (hn [] [] [] [(0, [0, 1]), (1, [0, 1, 7]), (2, [0, 1, 12]), (3, [0, 1]), (4, [4])] [(1, [0, 1])]) Go.Proofs.Tryz.f194)
 (.node 192 (trFn Go.Proofs.Tryz.prog (hn [] [] [] [(0, [0, 1]), (1, [0, 1, 16]), (2, [0, 1]), (3, [4])] [(1, [0, 1])]) Go.Proofs.Tryz.f192)
 (.node 191 (trFn Go.Proofs.Tryz.prog (hn [] [] [] [(0, [0, 1]), (1, [0, 1, 13]), (2, [0, 1]), (3, [4])] [(1, [0, 1])]) Go.Proofs.Tryz.f191)
 (.node 180 (trFn Go.Proofs.Tryz.prog (hn [] [] [] [(0, [0]), (1, [2])] []) Go.Proofs.Tryz.f180)
 .leaf .leaf) .leaf) (.node 193 (trFn Go.Proofs.Tryz.prog (hn [] [] [] [(0, [0, 2]), (1, [0, 2, 4]), (2, [0, 2, 4, 9]), (4, [0, 2, 4, 5]), (5, [0, 2, 4, 5, 16]), (6, [2, 3]), (7, [0, 2, 4]), (3, [0, 2, 4]), (8, [2, 3])] [(2, [0, 2, 4])]) Go.Proofs.Tryz.f193)
 .leaf .leaf)) (.node 196 (trFn Go.Proofs.Tryz.prog (hn [] [] [] [(0, [0, 1]), (1, [0, 1, 9]), (2, [0, 1, 5, 6]), (3, [0, 1, 6, 18]), (4, [0, 1]), (5, [4])] [(1, [0, 1])]) Go.Proofs.Tryz.f196)
 (.node 195 (trFn Go.Proofs.Tryz.prog (hn [] [] [] [(0, [0, 1]), (1, [0, 1, 7]), (2, [0, 1, 15]), (3, [0, 1]), (4, [4])] [(1, [0, 1])]) Go.Proofs.Tryz.f195)
 .leaf .leaf) (.node 197 (trFn Go.Proofs.Tryz.prog (hn [] [] [] [(0, [0, 1]), (1, [0, 1, 9]), (2, [0, 1, 5, 6]), (3, [0, 1, 5, 6, 17]), (4, [0, 1, 5, 6]), (5, [0, 1, 6, 26]), (6, [0, 1]), (7, [4])] [(1, [0, 1])]) Go.Proofs.Tryz.f197)
 .leaf .leaf)))) (.node 245 (trFn Go.Proofs.Tryz.prog (hn [] [] [] [(0, [0]), (1, [0, 13]), (2, [2]), (3, [0, 17]), (4, [2]), (5, [0, 3]), (6, [0, 3, 4]), (7, [0, 3, 4, 26]), (8, [0, 3, 4, 5]), (9, [0, 3, 4, 5, 40]), (11, [0, 3, 4]), (10, [0, 3, 4]), (12, [0, 3, 57]), (13, [2]), (14, [0, 6]), (15, [0, 6, 68]), (16, [0, 6, 7]), (17, [0, 6, 7, 74]), (18, [2]), (19, [2]), (20, [2])] [(7, [0, 3, 4])]) Go.Proofs.Tryz.f245)
 (.node 241 (trFn Go.Proofs.Tryz.prog (hn [] [] [] [(0, [0, 1]), (1, [4])] []) Go.Proofs.Tryz.f241)
 (.node 229 (trFn Go.Proofs.Tryz.prog (hn [] [] [] [(0, [0]), (1, [2])] []) Go.Proofs.Tryz.f229)
 (.node 228 (trFn Go.Proofs.Tryz.prog (hn [] [] [] [(0, [0]), (1, [2])] []) Go.Proofs.Tryz.f228)
 (.node 199 (trFn Go.Proofs.Tryz.prog (hn [] [] [] [(0, [0, 1]), (1, [0, 1, 7, 8]), (2, [0, 1, 7, 8, 9]), (3, [0, 1, 5, 7, 8]), (4, [0, 1, 5, 7, 8, 16]), (5, [4]), (6, [0, 1, 7, 8]), (7, [4])] [(2, [0, 1, 7, 8])]) Go.Proofs.Tryz.f199)
 .leaf .leaf) .leaf) (.node 230 (trFn Go.Proofs.Tryz.prog (hn [] [] [] [(0, [0, 1]), (1, [4])] []) Go.Proofs.Tryz.f230)
 .leaf .leaf)) (.node 243 (trFn Go.Proofs.Tryz.prog (hn [] [] [] [(0, [0, 1]), (1, [4])] []) Go.Proofs.Tryz.f243)
 (.node 242 (trFn Go.Proofs.Tryz.prog (hn [] [] [] [(0, [0]), (1, [0, 10]), (3, [2, 3]), (2, [2, 3])] []) Go.Proofs.Tryz.f242)
 .leaf .leaf) (.node 244 (trFn Go.Proofs.Tryz.prog (hn [] [] [] [(0, [0]), (1, [0, 4]), (2, [0, 4, 10]), (3, [2, 3]), (4, [0, 4, 5]), (5, [0, 2, 4, 5]), (6, [0, 2, 4, 5, 18]), (7, [2, 3]), (8, [0, 4, 5, 6]), (9, [0, 4, 5, 6]), (10, [0, 4, 5, 6, 27]), (12, [0, 4, 5, 6, 33]), (11, [0, 4, 5, 6]), (13, [0, 4, 5, 35]), (14, [0, 4, 5]), (15, [2, 3, 4, 5]), (16, [2, 3, 48]), (17, [2, 3]), (18, [2, 3])] [(10, [0, 4, 5, 6])]) Go.Proofs.Tryz.f244)
 .leaf .leaf))) (.node 281 (trFn Go.Proofs.Tryz.prog (hn [] [] [] [(0, [0, 1]), (1, [0, 1, 5]), (2, [0, 1, 5, 6]), (3, [0, 1, 5, 6, 13]), (4, [0, 1, 5, 6, 7]), (5, [0, 1, 5, 6, 7, 8]), (6, [0, 1, 5, 6, 7, 8, 38]), (7, [4]), (8, [0, 1, 5, 6, 7, 46]), (10, [0, 1, 5, 6]), (9, [0, 1, 5, 6]), (11, [4])] [(3, [0, 1, 5, 6])]) Go.Proofs.Tryz.f281)
 (.node 279 (trFn Go.Proofs.Tryz.prog (hn [] [] [] [(0, [0]), (1, [0, 4]), (2, [0, 4, 16]), (3, [2, 3]), (4, [0, 4, 5]), (5, [0, 4, 5, 6]), (6, [0, 4, 5, 6, 23]), (7, [0, 7]), (8, [2, 3]), (9, [0, 4, 5, 6, 8]), (10, [0, 4, 5, 8, 9]), (11, [0, 5, 8, 9, 45]), (12, [2, 3]), (13, [0, 5, 8, 9, 10]), (14, [0, 5, 8, 10, 57]), (15, [2, 3]), (16, [0, 5, 8, 10, 59]), (17, [2, 3]), (18, [0, 5, 8, 10, 11]), (19, [0, 5, 8, 10, 11, 75]), (20, [2, 3]), (21, [0, 5, 10, 11, 77]), (22, [2, 3]), (23, [5, 10, 11, 12]), (24, [5, 10, 11, 12, 98]), (25, [2, 3]), (26, [2, 3])] []) Go.Proofs.Tryz.f279)
 (.node 273 (trFn Go.Proofs.Tryz.prog (hn [] [] [] [(0, [0, 1]), (34, [0, 1, 160]), (36, [0, 1, 171]), (43, [0, 1, 183]), (1, [0, 7]), (2, [0, 7, 8]), (3, [0, 7, 8, 9]), (4, [0, 7, 8, 9]), (5, [0, 7, 8, 9, 26]), (6, [0, 7, 8, 9, 33]), (7, [0, 7, 8, 9, 11]), (8, [0, 7, 8, 9, 11, 43]), (9, [4]), (10, [0, 7, 8, 9]), (11, [0, 7, 8, 9, 12]), (12, [0, 7, 8, 9, 12, 51]), (14, [0, 7, 8, 9, 12, 64]), (13, [0, 7, 8, 9, 12]), (15, [4]), (16, [0, 7, 8, 9, 10]), (17, [0, 7, 8, 9, 10]), (18, [0, 7, 8, 9, 98]), (19, [4]), (23, [0, 7, 8, 9, 14]), (24, [0, 7, 8, 9, 14, 15]), (25, [0, 7, 8, 9, 14, 15, 124]), (27, [0, 7, 8, 9, 14, 15, 139]), (28, [0, 7, 8, 9, 14, 15, 16]), (29, [0, 7, 8, 9, 14, 15, 16, 143]), (31, [0, 7, 8, 9, 14, 15, 16, 156]), (30, [0, 7, 8, 9, 14, 15, 16]), (32, [4]), (26, [0, 7, 8, 9, 14, 15]), (20, [8, 9, 13]), (21, [8, 9, 13, 108]), (22, [4]), (33, [4]), (44, [4]), (37, [175]), (38, [175, 176, 177]), (39, [5, 6, 175]), (40, [5, 175, 181]), (41, [4]), (42, [4]), (35, [4])] [(5, [0, 7, 8, 9]), (12, [0, 7, 8, 9, 12]), (25, [0, 7, 8, 9, 14, 15]), (29, [0, 7, 8, 9, 14, 15, 16]), (38, [175])]) Go.Proofs.Tryz.f273)
 (.node 266 (trFn Go.Proofs.Tryz.prog (hn [] [] [] [(0, [0, 1]), (1, [4])] []) Go.Proofs.Tryz.f266)
 .leaf .leaf) .leaf) (.node 280 (trFn Go.Proofs.Tryz.prog (hn [] [] [] [(0, [0]), (1, [2])] []) Go.Proofs.Tryz.f280)
 .leaf .leaf)) (.node 300 (trFn Go.Proofs.Tryz.prog (hn [] [] [] [(0, [0]), (1, [2])] []) Go.Proofs.Tryz.f300)
 (.node 282 (trFn Go.Proofs.Tryz.prog (hn [] [] [] [(0, [0, 1, 2]), (1, [0, 1, 2, 7]), (2, [0, 1, 2, 7, 15]), (3, [6]), (4, [6])] []) Go.Proofs.Tryz.f282)
 .leaf .leaf) (.node 306 (trFn Go.Proofs.Tryz.prog (hn [] [] [] [(0, [0]), (1, [0, 3]), (3, [10]), (4, [2]), (2, [2]), (5, [2])] []) Go.Proofs.Tryz.f306)
 .leaf .leaf)))))
theorem tabH_ok : tabH.Ok Go.Proofs.Tryz.prog := by unfold tabH; exact (BT.nd Go.Proofs.Tryz.func198 (BT.nd Go.Proofs.Tryz.func141 (BT.nd Go.Proofs.Tryz.func137 (BT.nd Go.Proofs.Tryz.func124 (BT.nd Go.Proofs.Tryz.func78 (BT.nd Go.Proofs.Tryz.func76 BT.lf BT.lf) BT.lf) (BT.nd Go.Proofs.Tryz.func136 BT.lf BT.lf)) (BT.nd Go.Proofs.Tryz.func139 (BT.nd Go.Proofs.Tryz.func138 BT.lf BT.lf) (BT.nd Go.Proofs.Tryz.func140 BT.lf BT.lf))) (BT.nd Go.Proofs.Tryz.func194 (BT.nd Go.Proofs.Tryz.func192 (BT.nd Go.Proofs.Tryz.func191 (BT.nd Go.Proofs.Tryz.func180 BT.lf BT.lf) BT.lf) (BT.nd Go.Proofs.Tryz.func193 BT.lf BT.lf)) (BT.nd Go.Proofs.Tryz.func196 (BT.nd Go.Proofs.Tryz.func195 BT.lf BT.lf) (BT.nd Go.Proofs.Tryz.func197 BT.lf BT.lf)))) (BT.nd Go.Proofs.Tryz.func245 (BT.nd Go.Proofs.Tryz.func241 (BT.nd Go.Proofs.Tryz.func229 (BT.nd Go.Proofs.Tryz.func228 (BT.nd Go.Proofs.Tryz.func199 BT.lf BT.lf) BT.lf) (BT.nd Go.Proofs.Tryz.func230 BT.lf BT.lf)) (BT.nd Go.Proofs.Tryz.func243 (BT.nd Go.Proofs.Tryz.func242 BT.lf BT.lf) (BT.nd Go.Proofs.Tryz.func244 BT.lf BT.lf))) (BT.nd Go.Proofs.Tryz.func281 (BT.nd Go.Proofs.Tryz.func279 (BT.nd Go.Proofs.Tryz.func273 (BT.nd Go.Proofs.Tryz.func266 BT.lf BT.lf) BT.lf) (BT.nd Go.Proofs.Tryz.func280 BT.lf BT.lf)) (BT.nd Go.Proofs.Tryz.func300 (BT.nd Go.Proofs.Tryz.func282 BT.lf BT.lf) (BT.nd Go.Proofs.Tryz.func306 BT.lf BT.lf)))))
end Go.Ag
/- HeadersSet: headers, in plain words and as the program says it. -/
namespace Go.Ag
open Go
set_option linter.unusedVariables false
set_option linter.unusedSimpArgs false
set_option maxRecDepth 100000

/-- A header. -/
structure Hd where
  name : List UInt8
  val : List UInt8
abbrev cHd (h : Hd) : List PV := [.str h.name, .str h.val]
theorem flHd : Fl cHd 2 := ⟨fun _ => rfl, fun x y hy => by simp at hy; rcases hy with rfl | rfl <;> rfl, by omega⟩
def lower (c : UInt8) : UInt8 := if 65 ≤ c ∧ c ≤ 90 then c + 32 else c
def same (a b : List UInt8) : Bool := a.map lower == b.map lower
theorem same_self (a : List UInt8) : same a a = true := by simp [same]
def rightNames : List (List UInt8) := [[97, 99, 99, 101, 112, 116], [65, 99, 99, 101, 112, 116], [120, 45, 111, 110, 101], [88, 45, 84, 119, 111], [99, 111, 111, 107, 105, 101], [118, 97, 114, 121], [99, 111, 110, 110, 101, 99, 116, 105, 111, 110], [120, 45, 102, 111, 114, 119, 97, 114, 100, 101, 100, 45, 102, 111, 114], [118, 105, 97], [120, 45, 102, 111, 114, 119, 97, 114, 100, 101, 100, 45, 104, 111, 115, 116], [116, 101]]
def askNames : List (List UInt8) := [[97, 99, 99, 101, 112, 116], [88, 45, 79, 110, 101], [110, 101, 119]]
def rightVals : List (List UInt8) := [[49], [120], [97, 44, 32, 98], [], [120, 45, 111, 110, 101, 44, 32, 99, 108, 111, 115, 101], [103, 119], [49, 46, 50, 46, 51, 46, 52], [53, 46, 54, 46, 55, 46, 56, 44, 32, 57, 46, 57, 46, 57, 46, 57]]
def askVals : List (List UInt8) := [[49], [], [122]]
def allNames : List (List UInt8) := [88, 45, 79, 110, 101] :: [110, 101, 119] :: rightNames
def allVals : List (List UInt8) := [122] :: rightVals
theorem ask_names {s : List UInt8} (h : s ∈ askNames) : s ∈ allNames := by
  have : ∀ s ∈ askNames, s ∈ allNames := by decide
  exact this s h
theorem ask_vals {s : List UInt8} (h : s ∈ askVals) : s ∈ allVals := by
  have : ∀ s ∈ askVals, s ∈ allVals := by decide
  exact this s h
structure HdOk (h : Hd) : Prop where
  name : h.name ∈ allNames
  val : h.val ∈ allVals

/-! ### Plain words -/
def named (nm : List UInt8) (h : Hd) : Bool := same h.name nm
def setF (nm v : List UInt8) : List Hd → Bool → List Hd
  | [], d => if d = true then [] else [⟨nm, v⟩]
  | h :: r, d => if named nm h = true then (if d = true then setF nm v r d else ⟨h.name, v⟩ :: setF nm v r true) else h :: setF nm v r d
theorem set_done (nm v : List UInt8) : ∀ l : List Hd, (setF nm v l true).filter (named nm) = []
  | [] => by simp [setF]
  | h :: r => by
    simp only [setF]
    split
    · simpa using set_done nm v r
    · rename_i hn
      rw [List.filter_cons, if_neg hn]
      exact set_done nm v r
theorem set_vals (nm v : List UInt8) : ∀ l : List Hd, ((setF nm v l false).filter (named nm)).map Hd.val = [v]
  | [] => by simp [setF, named, same_self]
  | h :: r => by
    simp only [setF]
    split
    · rename_i hn
      have e : named nm ⟨h.name, v⟩ = true := hn
      simp only [Bool.false_eq_true, if_false]
      rw [List.filter_cons, if_pos e, set_done]
      rfl
    · rename_i hn
      rw [List.filter_cons, if_neg hn]
      exact set_vals nm v r
theorem set_rest (nm v : List UInt8) : ∀ (l : List Hd) (d : Bool), (setF nm v l d).filter (fun h => !named nm h) = l.filter (fun h => !named nm h)
  | [], d => by cases d <;> simp [setF, named, same_self]
  | h :: r, d => by
    simp only [setF]
    by_cases hn : named nm h = true
    · rw [if_pos hn]
      have e : named nm ⟨h.name, v⟩ = true := hn
      have e2 : (h :: r).filter (fun h => !named nm h) = r.filter (fun h => !named nm h) := by simp [hn]
      rw [e2]
      cases d
      · simp only [Bool.false_eq_true, if_false]
        rw [List.filter_cons, if_neg (by simp [e])]
        exact set_rest nm v r true
      · simp only [if_true]
        exact set_rest nm v r true
    · rw [if_neg hn, List.filter_cons, List.filter_cons, if_pos (by simp [hn]), if_pos (by simp [hn]), set_rest nm v r d]
theorem set_ok {nm v : List UInt8} (hn : nm ∈ allNames) (hv : v ∈ allVals) : ∀ (l : List Hd) (d : Bool), (∀ h ∈ l, HdOk h) → ∀ h ∈ setF nm v l d, HdOk h
  | [], d, hl, h, hh => by
    cases d
    · simp [setF] at hh; subst hh; exact ⟨hn, hv⟩
    · simp [setF] at hh
  | x :: r, d, hl, h, hh => by
    have ih := fun d => set_ok hn hv r d (fun h hh => hl h (by simp [hh]))
    simp only [setF] at hh
    split at hh
    · split at hh
      · exact ih _ h hh
      · rcases List.mem_cons.1 hh with rfl | hh
        · exact ⟨(hl x (by simp)).name, hv⟩
        · exact ih _ h hh
    · rcases List.mem_cons.1 hh with rfl | hh
      · exact hl h (by simp)
      · exact ih _ h hh
theorem set_len (nm v : List UInt8) : ∀ (l : List Hd) (d : Bool), (setF nm v l d).length ≤ l.length + 1
  | [], d => by cases d <;> simp [setF]
  | x :: r, d => by
    have h1 := set_len nm v r d
    have h2 := set_len nm v r true
    simp only [setF]
    split
    · split
      · simp only [List.length_cons]; omega
      · simp only [List.length_cons]; omega
    · simp only [List.length_cons]; omega

/-! ### Small functions, by running them -/
theorem pf_evH {f : FuncId} {args : List PV} {r : PV} (h : (evFn tabH.find (fun _ _ _ => none) 400 60 f (args.map .p) mem0).bind (fun x => x.1.still x.2) = some r) : PFun PG f args r := by
  obtain ⟨⟨rv, S⟩, h1, h2⟩ := Option.bind_eq_some_iff.1 h
  refine (evFn_sound mix (BT.ok tabH tabH_ok) callOk_none 400 60 f _ mem0 _ _ rfl h1).mono ?_
  rintro r' S'' ⟨rfl, rfl⟩
  exact h2
theorem tok_pf (s : List UInt8) (h : s ∈ allNames) : PFun PG 124 [.str s] (.bool true) := by
  simp only [allNames, rightNames, List.mem_cons, List.not_mem_nil, or_false] at h
  rcases h with rfl | rfl | rfl | rfl | rfl | rfl | rfl | rfl | rfl | rfl | rfl | rfl | rfl
  all_goals exact pf_evH (by kernel_rfl)
theorem fld_pf (s : List UInt8) (h : s ∈ allVals) : PFun PG 76 [.str s] (.bool true) := by
  simp only [allVals, rightVals, List.mem_cons, List.not_mem_nil, or_false] at h
  rcases h with rfl | rfl | rfl | rfl | rfl | rfl | rfl | rfl | rfl
  all_goals exact pf_evH (by kernel_rfl)
theorem fold_pf (a b : List UInt8) (ha : a ∈ allNames) (hb : b ∈ askNames) : PFun PG 198 [.str a, .str b] (.bool (same a b)) := by
  simp only [allNames, rightNames, List.mem_cons, List.not_mem_nil, or_false] at ha
  simp only [askNames, List.mem_cons, List.not_mem_nil, or_false] at hb
  rcases ha with rfl | rfl | rfl | rfl | rfl | rfl | rfl | rfl | rfl | rfl | rfl | rfl | rfl
  all_goals
    rcases hb with rfl | rfl | rfl
    all_goals exact pf_evH (by kernel_rfl)
theorem named_pf (h : Hd) (nm : List UInt8) (hh : HdOk h) (hn : nm ∈ askNames) : PFun PG 138 [gz cHd h, .str nm] (.bool (named nm h)) := by
  have hc := fold_pf h.name nm hh.name hn
  cases hb : named nm h
  all_goals
    have hb' : same h.name nm = _ := hb
    rw [hb'] at hc
    refine walk_138 rfl (by simp) ?_
    constructor
    refine CallV.of hc ?_
    constructor
    exact ⟨rfl⟩
end Go.Ag
/- HeadersSet: headers are checked, set, found, left out. -/
namespace Go.Ag
open Go
set_option linter.unusedVariables false
set_option linter.unusedSimpArgs false
set_option maxRecDepth 100000

abbrev hds (l : List Hd) : List PV := l.map (gz cHd)
theorem rh_sc (l : List Int) (a : Int) (rest : List Blk) (T : Toks) (hl : l.length ≤ 140737488355328) (h0 : 0 ≤ a) (h1 : a < 900000000) :
    SC PG 17 [.ptr 0 0, vi 5] (stm l a rest T) fun r S' => ∃ hs a' T', ((∀ h ∈ hs, HdOk h) ∧ hs.length ≤ 5) ∧ (a ≤ a' ∧ a' ≤ a + 20) ∧ Ext T T' ∧ Row T 2 36 (hds hs) T' r ∧ S' = stm l a' rest T' := by
  refine walk_17 rfl (by simp) ?_
  constructor
  refine CallM.of rfl (range_sc l a 0 5 rest T hl h0 (by omega) (by omega) (by omega) (by omega)) ?_
  rintro r S' ⟨n, hn, rfl, rfl⟩
  constructor
  refine LoopF.of (fun s : List Hd × RV × Toks => ([(0, .ptr 0 0), (5, s.2.1), (8, vi n), (9, vi s.1.length)], stm l (a + 1 + 2 * s.1.length) rest s.2.2)) (fun s => 5 - s.1.length) (fun s => (∀ x ∈ s.1, HdOk x) ∧ (s.1.length : Int) ≤ n ∧ Row T 2 36 (hds s.1) s.2.2 s.2.1 ∧ Ext T s.2.2) ([], .nsl true, T) ⟨by simp, by simp; omega, Row.nil, Ext.refl T⟩ rfl (stm_eq (by simp)) ?_
  rintro ⟨s, q, T1⟩ ⟨hs, hsn, hr, hx⟩
  simp only at hs hsn hr hx
  have hr2 := hr
  rcases hr with ⟨rfl, he⟩ | ⟨t, rfl, ht⟩
  all_goals
    constructor
    refine ⟨fun h2 => ?_, fun h2 => ?_⟩
    · have h2 : (s.length : Int) < n := h2
      constructor
      refine CallM.of rfl (some_sc l (a + 1 + 2 * s.length) rest _ rightNames hl (by omega) (by omega) (by decide) (by decide)) ?_
      rintro r S' ⟨nm, hnm, rfl, rfl⟩
      constructor
      refine CallM.of rfl (some_sc l (a + 1 + 2 * s.length + 1) rest _ rightVals hl (by omega) (by omega) (by decide) (by decide)) ?_
      rintro r S' ⟨v, hv, rfl, rfl⟩
      obtain ⟨t', T', k1, k2, k3⟩ := hr2.app (y := gz cHd ⟨nm, v⟩) (b := 32) hx rfl (by simp [lim]; omega)
      constructor
      refine Opr.of (k1 _ rfl) ?_
      constructor
      refine ⟨by unfold inR; omega, ?_⟩
      refine ⟨(s ++ [⟨nm, v⟩], .own (hds s ++ [gz cHd ⟨nm, v⟩]) t', T'), ⟨?_, ?_, ?_, k3⟩, ?_, ?_, ?_⟩
      · intro x hx; simp only [List.mem_append, List.mem_singleton] at hx; rcases hx with h | rfl
        · exact hs x h
        · exact ⟨List.mem_cons_of_mem _ (List.mem_cons_of_mem _ hnm), List.mem_cons_of_mem _ hv⟩
      · simp only [List.length_append, List.length_cons, List.length_nil]; omega
      · simpa using k2
      · simp only [List.length_append, List.length_cons, List.length_nil]; omega
      · simp; rfl
      · exact stm_eq (by simp only [List.length_append, List.length_cons, List.length_nil]; omega)
    · constructor
      exact ⟨s, a + 1 + 2 * s.length, T1, ⟨hs, by omega⟩, ⟨by omega, by omega⟩, hx, hr2, rfl⟩

theorem chk_pf (l : List Hd) (h : ∀ x ∈ l, HdOk x) (hl : l.length ≤ 50) : PFun PG 68 [.sl (hds l)] (.int .i64 0) := by
  have hlen : ((hds l).length : Int) = l.length := by simp
  refine walk_68 rfl (by simp) ?_
  constructor
  refine Cmp.no (by omega) ?_
  constructor
  refine LoopF.of (fun i : Nat => ([(8, .p (.sl (hds l))), (9, vi (hds l).length), (10, vi i)], mem0)) (fun i => l.length - i) (fun i => i ≤ l.length) 0 (Nat.zero_le _) rfl rfl ?_
  intro i hi
  constructor
  refine ⟨fun h1 => ?_, fun h1 => ?_⟩
  · rw [hlen] at h1
    constructor
    refine Elt.map (by omega) (by omega) fun x hx => ⟨rfl, ?_⟩
    have ok := h x (List.mem_of_getElem? hx)
    constructor
    refine CallV.of (tok_pf x.name ok.name) ?_
    constructor
    refine CallV.of (fld_pf x.val ok.val) ?_
    constructor
    refine ⟨by unfold inR; omega, ?_⟩
    exact ⟨i + 1, by omega, by omega, rfl, rfl⟩
  · constructor
    exact ⟨rfl⟩
theorem nmf_pf (l : List Hd) (nm : List UInt8) (h : ∀ x ∈ l, HdOk x) (hl : l.length ≤ 50) (hn : nm ∈ askNames) : PFun PG 75 [.sl (hds l), .str nm] (.int .i64 0) := by
  refine walk_75 rfl (by simp) ?_
  constructor
  refine CallV.of (chk_pf l h hl) ?_
  constructor
  refine Cmp.yes rfl ?_
  constructor
  refine CallV.of (tok_pf nm (ask_names hn)) ?_
  constructor
  exact ⟨rfl⟩

theorem ext_nilH (T : Toks) : Ext [] T := fun i x h => by simp at h
theorem set_pf (l : List Hd) (nm v : List UInt8) (h : ∀ x ∈ l, HdOk x) (hl : l.length ≤ 50) (hn : nm ∈ askNames) : PFun PG 77 [.sl (hds l), .str nm, .str v] (.sl (hds (setF nm v l false))) := by
  have hlen : ((hds l).length : Int) = l.length := by simp
  refine walk_77 rfl (by simp) ?_
  constructor
  refine LoopF.of (fun s : Nat × Bool × List Hd × RV × Toks => ([(1, .p (.str nm)), (2, .p (.str v)), (7, s.2.2.2.1), (8, vb s.2.1), (11, .p (.sl (hds l))), (12, vi (hds l).length), (13, vi s.1)], ⟨[], [], s.2.2.2.2⟩)) (fun s => l.length - s.1) (fun s => s.1 ≤ l.length ∧ Row [] 2 36 (hds s.2.2.1) s.2.2.2.2 s.2.2.2.1 ∧ s.2.2.1.length ≤ s.1 ∧ s.2.2.1 ++ setF nm v (l.drop s.1) s.2.1 = setF nm v l false) (0, false, [], .nsl true, []) ⟨by simp, Row.nil, by simp, by simp⟩ rfl rfl ?_
  rintro ⟨i, d, out, q, T⟩ ⟨hi, hr, hol, hset⟩
  simp only at hi hr hol hset
  have hr2 := hr
  cases d
  all_goals
    rcases hr with ⟨rfl, he⟩ | ⟨t, rfl, ht⟩
    all_goals
      constructor
      refine ⟨fun h2 => ?_, fun h2 => ?_⟩
      · have h2 : (i : Int) < (hds l).length := h2
        rw [hlen] at h2
        constructor
        refine Elt.map (by simp only; omega) (by simp only; omega) fun x hx => ⟨rfl, ?_⟩
        have hx : l[i]? = some x := hx
        have hxm := List.mem_of_getElem? hx
        have hc := named_pf x nm (h x hxm) hn
        have hdrop : l.drop i = x :: l.drop (i + 1) := by
          have hi2 := (List.getElem?_eq_some_iff.1 hx)
          obtain ⟨hlt, he2⟩ := hi2
          rw [← he2]
          exact List.drop_eq_getElem_cons hlt
        rw [hdrop] at hset
        cases hb : named nm x
        · rw [hb] at hc
          simp only [setF, hb, Bool.false_eq_true, if_false] at hset
          obtain ⟨t', T', k1, k2, k3⟩ := hr2.app (y := gz cHd x) (b := 32) (ext_nilH _) rfl (by simp [lim]; omega)
          constructor
          refine CallV.of hc ?_
          constructor
          refine Opr.of (k1 _ rfl) ?_
          constructor
          refine ⟨by unfold inR; simp only; omega, ?_⟩
          refine ⟨(i + 1, _, out ++ [x], _, T'), ⟨by simp only; omega, by simpa using k2, by simp only [List.length_append, List.length_cons, List.length_nil]; omega, by simpa using hset⟩, by simp only; omega, rfl, rfl⟩
        · rw [hb] at hc
          simp only [setF, hb, if_true, Bool.false_eq_true, if_false] at hset
          constructor
          refine CallV.of hc ?_
          first
            | (obtain ⟨t', T', k1, k2, k3⟩ := hr2.app (y := gz cHd ⟨x.name, v⟩) (b := 32) (ext_nilH _) rfl (by simp [lim]; omega)
               constructor
               refine Opr.of (k1 _ rfl) ?_
               constructor
               refine ⟨by unfold inR; simp only; omega, ?_⟩
               refine ⟨(i + 1, true, out ++ [⟨x.name, v⟩], _, T'), ⟨by simp only; omega, by simpa using k2, by simp only [List.length_append, List.length_cons, List.length_nil]; omega, by simpa using hset⟩, by simp only; omega, rfl, rfl⟩)
            | (constructor
               refine ⟨by unfold inR; simp only; omega, ?_⟩
               refine ⟨(i + 1, true, out, _, T), ⟨by simp only; omega, hr2, by simp only; omega, hset⟩, by simp only; omega, rfl, rfl⟩)
      · have h2 : ¬ (i : Int) < (hds l).length := h2
        rw [hlen] at h2
        have hdrop : l.drop i = [] := List.drop_eq_nil_iff.2 (by omega)
        rw [hdrop] at hset
        simp only [setF, Bool.false_eq_true, if_false, if_true, List.append_nil] at hset
        first
          | (obtain ⟨t', T', k1, k2, k3⟩ := hr2.app (y := gz cHd ⟨nm, v⟩) (b := 32) (ext_nilH _) rfl (by simp [lim]; omega)
             constructor
             refine Opr.of (k1 _ rfl) ?_
             constructor
             exact ⟨by rw [← hset]; simp; rfl⟩)
          | (constructor
             exact ⟨by rw [← hset]; rfl⟩)
          | (constructor
             exact ⟨by rw [← hset, he]; rfl⟩)
theorem vals_pf (l : List Hd) (nm : List UInt8) (h : ∀ x ∈ l, HdOk x) (hl : l.length ≤ 50) (hn : nm ∈ askNames) : PFun PG 79 [.sl (hds l), .str nm] (.sl (strs ((l.filter (named nm)).map Hd.val))) := by
  have hlen : ((hds l).length : Int) = l.length := by simp
  refine walk_79 rfl (by simp) ?_
  constructor
  refine LoopF.of (fun s : Nat × RV × Toks => ([(1, .p (.str nm)), (5, s.2.1), (8, .p (.sl (hds l))), (9, vi (hds l).length), (10, vi s.1)], ⟨[], [], s.2.2⟩)) (fun s => l.length - s.1) (fun s => s.1 ≤ l.length ∧ Row [] 1 9 (strs (((l.take s.1).filter (named nm)).map Hd.val)) s.2.2 s.2.1) (0, .nsl true, []) ⟨by simp, Row.nil⟩ rfl rfl ?_
  rintro ⟨i, q, T⟩ ⟨hi, hr⟩
  simp only at hi hr
  have hr2 := hr
  have hfl : ((l.take i).filter (named nm)).length ≤ i := Nat.le_trans (List.length_filter_le _ _) (by simp; omega)
  rcases hr with ⟨rfl, he⟩ | ⟨t, rfl, ht⟩
  all_goals
    constructor
    refine ⟨fun h2 => ?_, fun h2 => ?_⟩
    · have h2 : (i : Int) < (hds l).length := h2
      rw [hlen] at h2
      constructor
      refine Elt.map (by simp only; omega) (by simp only; omega) fun x hx => ⟨rfl, ?_⟩
      have hx : l[i]? = some x := hx
      have hxm := List.mem_of_getElem? hx
      have hc := named_pf x nm (h x hxm) hn
      cases hb : named nm x
      · rw [hb] at hc
        have hf : (l.take (i + 1)).filter (named nm) = (l.take i).filter (named nm) := by rw [List.take_add_one, hx, List.filter_append]; simp [hb]
        constructor
        refine CallV.of hc ?_
        constructor
        refine ⟨by unfold inR; simp only; omega, ?_⟩
        exact ⟨(i + 1, _, T), ⟨by simp only; omega, by simp only [hf]; exact hr2⟩, by simp only; omega, rfl, rfl⟩
      · rw [hb] at hc
        have hf : (l.take (i + 1)).filter (named nm) = (l.take i).filter (named nm) ++ [x] := by rw [List.take_add_one, hx, List.filter_append]; simp [hb]
        obtain ⟨t', T', k1, k2, k3⟩ := hr2.app (y := .str x.val) (b := 16) (ext_nilH _) rfl (by simp only [List.length_map, lim]; omega)
        constructor
        refine CallV.of hc ?_
        constructor
        refine Opr.of (k1 _ rfl) ?_
        constructor
        refine ⟨by unfold inR; simp only; omega, ?_⟩
        exact ⟨(i + 1, _, T'), ⟨by simp only; omega, by simp only [hf]; simpa using k2⟩, by simp only; omega, rfl, rfl⟩
    · have h2 : ¬ (i : Int) < (hds l).length := h2
      rw [hlen] at h2
      have hat : l.take i = l := List.take_of_length_le (by omega)
      constructor
      first
        | exact ⟨by rw [← hat]; simp only [List.take_take, Nat.min_self]; rfl⟩
        | exact ⟨by rw [hat] at he; rw [he]; rfl⟩

/-! ### Left out -/
abbrev rowH (xs : List Hd) : Blk := .cells 73 (rowz cHd xs)
theorem cloneH_sc (xs : List Hd) (hne : xs ≠ []) (hl : xs.length ≤ 1000) (m : List Blk) : SC PG 140 [.p (.sl (hds xs))] ⟨[], m, []⟩ fun r S' => r = .rs m.length 0 xs.length 2 ∧ S' = ⟨[], m ++ [rowH xs], []⟩ := by
  obtain ⟨x, l, rfl⟩ : ∃ x l, xs = x :: l := by cases xs with | nil => exact absurd rfl hne | cons x l => exact ⟨x, l, rfl⟩
  refine walk_140 rfl (by simp) ?_
  constructor
  refine Opr.of (r := .nsl false) rfl ?_
  constructor
  refine Opr.of (app_z flHd (bytes := 32) (xs := x :: l) (.inl rfl) (by simp) (by simp only [lim]; omega)) ?_
  constructor
  exact ⟨rfl, rfl⟩
theorem ixh_sc (f : FuncId) (φ : Hd → Bool) (A : Blk) (xs : List Hd) (hl : xs.length ≤ 1000)
    (h : ∀ ys, ∀ s ∈ xs, SC PG f [.agg (fz cHd s), .ptr 0 0] ⟨[], [A, rowH ys], []⟩ fun r S' => r = vb (φ s) ∧ S' = ⟨[], [A, rowH ys], []⟩) :
    SC PG 199 [.rs 1 0 xs.length 2, .fn f [] [.ptr 0 0]] ⟨[], [A, rowH xs], []⟩ fun r S' => ((r = vi (-1) ∧ ∀ s ∈ xs, φ s = false) ∨ ∃ k : Nat, k < xs.length ∧ r = vi k ∧ (∀ s ∈ xs.take k, φ s = false) ∧ ∀ s, xs[k]? = some s → φ s = true) ∧ S' = ⟨[], [A, rowH xs], []⟩ := by
  refine walk_199 rfl (by simp) ?_
  constructor
  refine LoopF.of (fun i : Nat => ([(0, .rs 1 0 xs.length 2), (1, .fn f [] [.ptr 0 0]), (7, vi xs.length), (8, vi i)], ⟨[], [A, rowH xs], []⟩)) (fun i => xs.length - i) (fun i => i ≤ xs.length ∧ ∀ s ∈ xs.take i, φ s = false) 0 ⟨by omega, by simp⟩ rfl rfl ?_
  rintro i ⟨hi, hφ⟩
  constructor
  refine ⟨fun h1 => ?_, fun h1 => ?_⟩
  · obtain ⟨x, hx⟩ : ∃ x, xs[i]? = some x := ⟨_, List.getElem?_eq_getElem (by omega)⟩
    have hm := List.mem_of_getElem? hx
    constructor
    refine Opr.of (ia_z _ (by omega)) ?_
    constructor
    refine Opr.of (ld_z flHd (xs := xs) (x := x) rfl hx) ?_
    constructor
    refine CallM.of rfl (h xs x hm) ?_
    rintro r S' ⟨rfl, rfl⟩
    cases hp : φ x
    · constructor
      refine ⟨by unfold inR; omega, ?_⟩
      refine ⟨i + 1, ⟨by omega, ?_⟩, by omega, rfl, rfl⟩
      intro s hs
      rw [List.take_add_one, hx] at hs
      rcases List.mem_append.1 hs with hs | hs
      · exact hφ s hs
      · simp at hs; subst hs; exact hp
    · constructor
      exact ⟨.inr ⟨i, by omega, rfl, hφ, fun s hs => by rw [hx] at hs; cases hs; exact hp⟩, rfl⟩
  · constructor
    refine ⟨.inl ⟨rfl, fun s hs => ?_⟩, rfl⟩
    exact hφ s (by rw [List.take_of_length_le (by omega)]; exact hs)
theorem drop_getH {α : Type} {xs ys : List α} {j : Nat} (h : ys.drop j = xs.drop j) : ys[j]? = xs[j]? := by
  have : (ys.drop j)[0]? = (xs.drop j)[0]? := by rw [h]
  simpa using this
theorem drop_moreH {α : Type} {xs ys : List α} {j : Nat} (h : ys.drop j = xs.drop j) : ys.drop (j + 1) = xs.drop (j + 1) := by
  have : (ys.drop j).drop 1 = (xs.drop j).drop 1 := by rw [h]
  simpa [List.drop_drop, Nat.add_comm] using this
theorem set_takeH {α : Type} {ys : List α} {c : Nat} (x : α) (h : c < ys.length) : (ys.set c x).take (c + 1) = ys.take c ++ [x] := by
  rw [List.take_add_one, List.take_set_of_le (Nat.le_refl _), List.getElem?_set_self h]
  rfl
theorem dlh_sc (f : FuncId) (φ : Hd → Bool) (A : Blk) (xs : List Hd) (hl : xs.length ≤ 1000)
    (h : ∀ ys, ∀ s ∈ xs, SC PG f [.agg (fz cHd s), .ptr 0 0] ⟨[], [A, rowH ys], []⟩ fun r S' => r = vb (φ s) ∧ S' = ⟨[], [A, rowH ys], []⟩) :
    SC PG 139 [.rs 1 0 xs.length 2, .fn f [] [.ptr 0 0]] ⟨[], [A, rowH xs], []⟩ fun r S' => ∃ k zs, r = .rs 1 0 k 2 ∧ S' = ⟨[], [A, rowH zs], []⟩ ∧ k ≤ zs.length ∧ zs.take k = xs.filter fun s => !φ s := by
  refine walk_139 rfl (by simp) ?_
  constructor
  refine CallM.of rfl (ixh_sc f φ A xs hl h) ?_
  rintro r S' ⟨hr, rfl⟩
  rcases hr with ⟨rfl, hall⟩ | ⟨k, hk, rfl, hpre, hkk⟩
  · constructor
    refine Cmp.yes rfl ?_
    constructor
    refine ⟨xs.length, xs, rfl, rfl, Nat.le_refl _, ?_⟩
    rw [List.take_length]
    exact (List.filter_eq_self.2 fun s hs => by rw [hall s hs]; rfl).symm
  · constructor
    refine Cmp.no (by omega) ?_
    constructor
    refine ⟨by unfold inR; omega, ?_⟩
    constructor
    refine LoopF.of (fun s : Nat × Nat × List Hd => ([(0, .rs 1 0 xs.length 2), (1, .fn f [] [.ptr 0 0]), (5, vi s.1), (6, vi s.2.1)], ⟨[], [A, rowH s.2.2], []⟩)) (fun s => xs.length - s.2.1) (fun s => s.1 < s.2.1 ∧ s.2.1 ≤ xs.length ∧ s.2.2.length = xs.length ∧ s.2.2.take s.1 = (xs.take s.2.1).filter (fun s => !φ s) ∧ s.2.2.drop s.2.1 = xs.drop s.2.1) (k, k + 1, xs) ⟨by simp, hk, rfl, ?_, rfl⟩ rfl rfl ?_
    · obtain ⟨x, hx⟩ : ∃ x, xs[k]? = some x := ⟨_, List.getElem?_eq_getElem hk⟩
      show xs.take k = (xs.take (k + 1)).filter fun s => !φ s
      rw [List.take_add_one, hx, List.filter_append]
      rw [List.filter_eq_self.2 fun s hs => by rw [hpre s hs]; rfl]
      simp [hkk x hx]
    rintro ⟨c, j, ys⟩ ⟨hcj, hj, hyl, htk, hdr⟩
    simp only at hcj hj hyl htk hdr
    constructor
    refine ⟨fun h2 => ?_, fun h2 => ?_⟩
    · have h2 : (j : Int) < xs.length := h2
      obtain ⟨x, hx⟩ : ∃ x, xs[j]? = some x := ⟨_, List.getElem?_eq_getElem (by omega)⟩
      have hy : ys[j]? = some x := (drop_getH hdr).trans hx
      have hm := List.mem_of_getElem? hx
      constructor
      refine Opr.of (ia_z _ (by simp only; omega)) ?_
      constructor
      refine Opr.of (ld_z flHd (xs := ys) (x := x) rfl hy) ?_
      constructor
      refine CallM.of rfl (h ys x hm) ?_
      rintro r S' ⟨rfl, rfl⟩
      cases hp : φ x
      · constructor
        refine Opr.of (ia_z _ (by simp only; omega)) ?_
        constructor
        refine Opr.of (st_z flHd (xs := ys) x rfl (by simp only; omega)) ?_
        constructor
        refine ⟨by unfold inR; simp only; omega, ?_⟩
        constructor
        refine ⟨by unfold inR; simp only; omega, ?_⟩
        refine ⟨(c + 1, j + 1, ys.set c x), ⟨by simp only; omega, by simp only; omega, by simpa using hyl, ?_, ?_⟩, by simp only; omega, rfl, rfl⟩
        · show (ys.set c x).take (c + 1) = (xs.take (j + 1)).filter fun s => !φ s
          rw [set_takeH x (by omega), htk, List.take_add_one, hx, List.filter_append]
          simp [hp]
        · show (ys.set c x).drop (j + 1) = xs.drop (j + 1)
          rw [List.drop_set_of_lt (by omega)]
          exact drop_moreH hdr
      · constructor
        refine ⟨by unfold inR; simp only; omega, ?_⟩
        refine ⟨(c, j + 1, ys), ⟨by simp only; omega, by simp only; omega, hyl, ?_, drop_moreH hdr⟩, by simp only; omega, rfl, rfl⟩
        show ys.take c = (xs.take (j + 1)).filter fun s => !φ s
        rw [htk, List.take_add_one, hx, List.filter_append]
        simp [hp]
    · have h2 : ¬ (j : Int) < xs.length := h2
      obtain rfl : j = xs.length := by omega
      constructor
      refine Opr.of (cut_z (by simp only; omega)) ?_
      constructor
      refine Opr.of (clr_z flHd (xs := ys) (k := c) (n := xs.length - c) ⟨[], []⟩ rfl (by omega) rfl) ?_
      constructor
      refine Opr.of (cut_tz (by simp only; omega)) ?_
      constructor
      refine ⟨c, _, rfl, rfl, ?_, ?_⟩
      · simp; omega
      · rw [List.take_append_of_le_length (by simp; omega), List.take_take, Nat.min_self, htk, List.take_length]
theorem cl141 (nm : List UInt8) (ys : List Hd) (x : Hd) (hx : HdOk x) (hn : nm ∈ askNames) : SC PG 141 [.agg (fz cHd x), .ptr 0 0] ⟨[], [.cells 18 [.p (.str nm)], rowH ys], []⟩ fun r S' => r = vb (named nm x) ∧ S' = ⟨[], [.cells 18 [.p (.str nm)], rowH ys], []⟩ := by
  have hc := named_pf x nm hx hn
  cases hb : named nm x
  all_goals
    rw [hb] at hc
    refine walk_141 rfl (by simp) ?_
    constructor
    refine CallV.of hc ?_
    constructor
    exact ⟨rfl, rfl⟩
theorem wo_pf (l : List Hd) (nm : List UInt8) (h : ∀ x ∈ l, HdOk x) (hl : l.length ≤ 50) (hn : nm ∈ askNames) : PFun PG 78 [.sl (hds l), .str nm] (.sl (hds (l.filter fun h => !named nm h))) := by
  by_cases hne : l = []
  · subst hne
    simp only [askNames, List.mem_cons, List.not_mem_nil, or_false] at hn
    rcases hn with rfl | rfl | rfl
    all_goals exact pf_evH (by kernel_rfl)
  · refine walk_78 rfl (by simp) ?_
    constructor
    refine CallM.of rfl (cloneH_sc l hne (by omega) [.cells 18 [.p (.str nm)]]) ?_
    rintro r S' ⟨rfl, rfl⟩
    constructor
    refine CallM.of rfl (dlh_sc 141 (named nm) (.cells 18 [.p (.str nm)]) l (by omega) (fun ys x hx => cl141 nm ys x (h x hx) hn)) ?_
    rintro r S' ⟨k, zs, rfl, rfl, hk, hz⟩
    constructor
    exact ⟨(show RV.still _ (RV.rs 1 0 k 2) = _ from by
      have := still_z flHd (S := ⟨[], [.cells 18 [.p (.str nm)], rowH zs], []⟩) (b := 1) (xs := zs) rfl hk
      exact this).trans (congrArg (fun z : List Hd => some (PV.sl (z.map (gz cHd)))) hz)⟩
theorem Set_pf (l : List Hd) (nm v : List UInt8) (h : ∀ x ∈ l, HdOk x) (hl : l.length ≤ 40) (hn : nm ∈ askNames) (hv : v ∈ allVals) : PFun PG 19 [.sl (hds l), .str nm, .str v] (.tup [.sl (hds (setF nm v l false)), .int .i64 0]) := by
  have hs := set_len nm v l false
  refine walk_19 rfl (by simp) ?_
  constructor
  refine CallV.of (nmf_pf l nm h (by omega) hn) ?_
  constructor
  refine Cmp.yes rfl ?_
  constructor
  refine CallV.of (fld_pf v hv) ?_
  constructor
  refine CallV.of (set_pf l nm v h (by omega) hn) ?_
  constructor
  refine Cmp.no (by simp only [List.length_map]; omega) ?_
  constructor
  exact ⟨rfl⟩
theorem Get_pf (l : List Hd) (nm : List UInt8) (h : ∀ x ∈ l, HdOk x) (hl : l.length ≤ 50) (hn : nm ∈ askNames) : PFun PG 21 [.sl (hds l), .str nm] (.tup [.sl (strs ((l.filter (named nm)).map Hd.val)), .int .i64 0]) := by
  refine walk_21 rfl (by simp) ?_
  constructor
  refine CallV.of (nmf_pf l nm h hl hn) ?_
  constructor
  refine Cmp.yes rfl ?_
  constructor
  refine CallV.of (vals_pf l nm h hl hn) ?_
  constructor
  exact ⟨rfl⟩
theorem Rem_pf (l : List Hd) (nm : List UInt8) (h : ∀ x ∈ l, HdOk x) (hl : l.length ≤ 50) (hn : nm ∈ askNames) : PFun PG 20 [.sl (hds l), .str nm] (.tup [.sl (hds (l.filter fun h => !named nm h)), .int .i64 0]) := by
  refine walk_20 rfl (by simp) ?_
  constructor
  refine CallV.of (nmf_pf l nm h hl hn) ?_
  constructor
  refine Cmp.yes rfl ?_
  constructor
  refine CallV.of (wo_pf l nm h hl hn) ?_
  constructor
  exact ⟨rfl⟩

/-! ### Lists that are the same -/
theorem eq22_pf (v : List UInt8) : PFun PG 22 [.sl (strs [v]), .sl (strs [v])] (.bool true) := by
  refine walk_22 rfl (by simp) ?_
  constructor
  refine Cmp.yes rfl ?_
  constructor
  refine LoopF.of (fun i : Nat => ([(0, .p (.sl (strs [v]))), (1, .p (.sl (strs [v]))), (12, vi 1), (13, vi i)], mem0)) (fun i => 1 - i) (fun i => i ≤ 1) 0 (by omega) rfl rfl ?_
  intro i hi
  rcases (by omega : i = 0 ∨ i = 1) with rfl | rfl
  · constructor
    refine Cmp.yes (by simp) ?_
    constructor
    refine Elt.mk' (by simp) rfl ⟨rfl, ?_⟩
    constructor
    refine Elt.mk' (by simp) rfl ⟨rfl, ?_⟩
    constructor
    refine Cmp.yes rfl ?_
    constructor
    refine ⟨by unfold inR; simp, ?_⟩
    exact ⟨1, by omega, by omega, rfl, rfl⟩
  · constructor
    refine Cmp.no (by simp) ?_
    constructor
    exact ⟨rfl⟩
theorem eq_selfH (x : Hd) (S : Mem) : opY (.eqs true [.s, .s]) [.p (.agg [.str x.name, .str x.val]), .p (.agg [.str x.name, .str x.val])] S = some (vb false, S) := by
  simp [opY, eqA, aggOf, skEqL, skEq]
theorem eq23_pf (l : List Hd) (hl : l.length ≤ 1000) : PFun PG 23 [.sl (hds l), .sl (hds l)] (.bool true) := by
  have hlen : ((hds l).length : Int) = l.length := by simp
  refine walk_23 rfl (by simp) ?_
  constructor
  refine Cmp.yes rfl ?_
  constructor
  refine LoopF.of (fun i : Nat => ([(0, .p (.sl (hds l))), (1, .p (.sl (hds l))), (12, vi (hds l).length), (13, vi i)], mem0)) (fun i => l.length - i) (fun i => i ≤ l.length) 0 (by omega) rfl rfl ?_
  intro i hi
  constructor
  refine ⟨fun h1 => ?_, fun h1 => ?_⟩
  · rw [hlen] at h1
    obtain ⟨x, hx⟩ : ∃ x, l[i]? = some x := ⟨_, List.getElem?_eq_getElem (by omega)⟩
    constructor
    refine Elt.mk' (x := gz cHd x) (by omega) (by simp [hx]) ⟨rfl, ?_⟩
    constructor
    refine Elt.mk' (x := gz cHd x) (by omega) (by simp [hx]) ⟨rfl, ?_⟩
    constructor
    refine Opr.of (eq_selfH x _) ?_
    constructor
    refine ⟨by unfold inR; omega, ?_⟩
    exact ⟨i + 1, by omega, by omega, rfl, rfl⟩
  · constructor
    exact ⟨rfl⟩
end Go.Ag
namespace Go.Ag
open Go
set_option maxRecDepth 100000
theorem ready_ev : evFn tab.find (fun _ _ _ => none) 200 20 16 [] mem0 = some (.p (.bool true), mem0) := by kernel_rfl
theorem ready_pf : PFun Go.Proofs.Tryz.prog 16 [] (.bool true) := by
  refine (evFn_sound (by kernel_rfl) (BT.ok tab tab_ok) callOk_none 200 20 16 [] mem0 _ _ rfl ready_ev).mono ?_
  rintro r' S'' ⟨rfl, rfl⟩
  rfl
#print axioms ready_pf
end Go.Ag
/- HeadersSet: the law's function returns true. -/
namespace Go.Ag
open Go
set_option linter.unusedVariables false
set_option linter.unusedSimpArgs false
set_option maxRecDepth 100000

/-- What the functions say of all that the law asks. -/
theorem law4_ex (l : List Hd) (nm v : List UInt8) (h : ∀ x ∈ l, HdOk x) (hl : l.length ≤ 5) (hn : nm ∈ askNames) (hv : v ∈ askVals) :
    PFun PG 19 [.sl (hds l), .str nm, .str v] (.tup [.sl (hds (setF nm v l false)), .int .i64 0]) ∧ PFun PG 20 [.sl (hds l), .str nm] (.tup [.sl (hds (l.filter fun h => !named nm h)), .int .i64 0]) ∧
    PFun PG 21 [.sl (hds (setF nm v l false)), .str nm] (.tup [.sl (strs [v]), .int .i64 0]) ∧ PFun PG 21 [.sl (hds (l.filter fun h => !named nm h)), .str nm] (.tup [.sl (strs []), .int .i64 0]) ∧
    PFun PG 20 [.sl (hds (setF nm v l false)), .str nm] (.tup [.sl (hds (l.filter fun h => !named nm h)), .int .i64 0]) ∧ PFun PG 23 [.sl (hds (l.filter fun h => !named nm h)), .sl (hds (l.filter fun h => !named nm h))] (.bool true) := by
  have hsl := set_len nm v l false
  have hsk := set_ok (ask_names hn) (ask_vals hv) l false h
  have hwk : ∀ x ∈ l.filter (fun h => !named nm h), HdOk x := fun x hx => h x (List.mem_filter.1 hx).1
  have hwl := List.length_filter_le (fun h => !named nm h) l
  have c3 := Get_pf (setF nm v l false) nm hsk (by omega) hn
  rw [set_vals] at c3
  have c4 := Get_pf (l.filter fun h => !named nm h) nm hwk (by omega) hn
  have e4 : (l.filter fun h => !named nm h).filter (named nm) = [] := by
    rw [List.filter_filter]
    simp
  rw [e4] at c4
  have c5 := Rem_pf (setF nm v l false) nm hsk (by omega) hn
  rw [set_rest] at c5
  exact ⟨Set_pf l nm v h (by omega) hn (ask_vals hv), Rem_pf l nm h (by omega) hn, c3, c4, c5, eq23_pf _ (by omega)⟩
theorem law4 (l : List Int) (hl : l.length ≤ 140737488355328) : PFun PG 4 [ints l] (.bool true) := by
  refine walk_4 rfl (by simp) ?_
  constructor
  refine CallM.of rfl (rh_sc l 0 [] [] hl (by omega) (by omega)) ?_
  rintro r S' ⟨hs, a1, T1, hh, ha1, _, hr, rfl⟩
  rcases hr with ⟨rfl, he⟩ | ⟨t, rfl, _⟩
  case' inl => obtain rfl : hs = [] := List.map_eq_nil_iff.1 he
  all_goals
    constructor
    refine CallM.of rfl (some_sc l a1 [] T1 askNames hl (by omega) (by omega) (by decide) (by decide)) ?_
    rintro r S' ⟨nm, hnm, rfl, rfl⟩
    constructor
    refine CallM.of rfl (some_sc l (a1 + 1) [] T1 askVals hl (by omega) (by omega) (by decide) (by decide)) ?_
    rintro r S' ⟨v, hv, rfl, rfl⟩
    obtain ⟨c1, c2, c3, c4, c5, c6⟩ := law4_ex _ nm v hh.1 hh.2 hnm hv
    constructor
    refine CallV.of c1 ?_
    constructor
    refine CallV.of c2 ?_
    constructor
    refine CallV.of c3 ?_
    constructor
    refine CallV.of c4 ?_
    constructor
    refine CallV.of c5 ?_
    constructor
    refine Cmp.yes rfl ?_
    constructor
    refine Cmp.yes rfl ?_
    constructor
    refine Cmp.yes rfl ?_
    constructor
    refine Cmp.yes rfl ?_
    constructor
    refine Cmp.yes rfl ?_
    constructor
    refine CallV.of (eq22_pf v) ?_
    constructor
    refine Cmp.yes rfl ?_
    constructor
    refine CallV.of c6 ?_
    constructor
    refine CallV.of ready_pf ?_
    constructor
    exact ⟨rfl⟩
end Go.Ag
/- An abstract machine for Go functions: a law over a list of whole numbers, called in any memory. -/
namespace Go.Ag
open Go Go.ChangeShapes Go.WideShapes Go.RowKit
set_option linter.unusedVariables false
set_option linter.unusedSimpArgs false

/-- A row of whole numbers, as a card reads it. -/
def IsRow (k : IntKind) (w : World) (a : Option Addr) (len cap : Nat) (zs : List Int) : Prop :=
  (a = none ∧ len = 0 ∧ cap = 0 ∧ zs = []) ∨
  ∃ x, a = some x ∧ len ≤ cap ∧ cap ≤ maxLen ∧ zs.length = cap ∧ (∀ i, i < zs.length → w.cell? (x.add i) = some (.int k (zs.getD i 0))) ∧ ∀ n ∈ zs, (Lit.int k n).wf = true

theorem rep_ints {F : Cells} (hF : ∀ β o, ¬ F β o) {w : World} {a : Option Addr} {len cap : Nat} {zs : List Int} (h : IsRow .i64 w a len cap zs) :
    Rep F w (.sl ((zs.take len).map (PV.int .i64))) (.slice a len cap) := by
  have flatI : ∀ l : List Int, flat (l.map (PV.int .i64)) = l.map (PV.int .i64) := by
    intro l
    induction l with
    | nil => rfl
    | cons x l ih => rw [List.map_cons, flat_cons, ih]; rfl
  rcases h with ⟨rfl, rfl, rfl, rfl⟩ | ⟨x, rfl, h1, h2, h3, h4, _⟩
  · exact .sl [] none 0 1 (fun _ => undef) (by simp) (by simp) (by simp) (.inl rfl) (by simp [flat])
  · have hlen : ((zs.take len).map (PV.int .i64)).length = len := by simp; omega
    have key : Rep F w (.sl ((zs.take len).map (PV.int .i64))) (.slice (some x) ((zs.take len).map (PV.int .i64)).length cap) := by
      refine .sl _ _ cap 1 (fun k => .int .i64 (zs.getD k 0)) (by simp) (by rw [hlen]; exact h1) (fun y hy => ?_) ?_ (fun k y hy => ?_)
      · obtain ⟨n, _, rfl⟩ := List.mem_map.1 hy
        rfl
      · by_cases h0 : len = 0
        · subst h0; left; simp
        · right
          have hx0 := h4 0 (by omega)
          have hsp : x.spot = none := by
            unfold World.cell? at hx0
            have e : x.add 0 = x := by simp [Addr.add]
            rw [e] at hx0
            cases hs : x.spot with
            | none => rfl
            | some s =>
              rw [hs] at hx0
              split at hx0 <;> simp at hx0
          obtain ⟨b, o, s⟩ := x
          simp only at hsp
          subst hsp
          refine ⟨b, o, rfl, fun k hk => ⟨?_, hF _ _⟩⟩
          rw [flatI] at hk
          have := h4 k (by simp at hk; omega)
          rwa [addr_add] at this
      · rw [flatI] at hy
        rw [List.getElem?_map, Option.map_eq_some_iff] at hy
        obtain ⟨n, hn, rfl⟩ := hy
        rw [List.getElem?_take] at hn
        split at hn
        · have : zs.getD k 0 = n := by simp [List.getD, hn]
          rw [this]
          exact .int _ _
        · cases hn
    rwa [hlen] at key

/-- A law that is true of all lists returns true, whatever the memory, and leaves it as it was. -/
theorem PFun.row {P : Program} {f : FuncId} (h : ∀ l : List Int, l.length ≤ 140737488355328 → PFun P f [.sl (l.map (PV.int .i64))] (.bool true))
    {a : Option Addr} {len cap : Nat} {zs : List Int} {W : World} (hr : IsRow .i64 W a len cap zs) (hs : len * 8 ≤ 140737488351232) :
    Calls P f #[.slice a len cap] W fun e W' => e = .returned (.bool true) ∧ Below W.heap.size W W' := by
  have hF : ∀ β o, ¬ FX (fun _ _ => False) (fun _ => none) ([] : List (Nat × Nat × Nat)) β o := by
    rintro β o (h | h)
    · exact h
    · exact h
  have hM : MRel (fun _ _ => False) (fun _ => none) mem0 W :=
    { inj := fun β β' o h => by cases h
      bnd := fun β o h => by cases h
      xb := fun β o h => h.elim
      memlt := fun β o h => by cases h
      toklt := fun β o h => by cases h
      locin := fun β o h => by cases h
      deadlt := fun b h => by simp [Dead, mem0] at h
      blk := fun b k h => by simp [mem0] at h
      loc := fun d cs h => by simp [mem0, locGet_nil] at h
      tok := fun t e z h => by simp [mem0] at h }
  have hl : (zs.take len).length ≤ 140737488355328 := by
    have : (zs.take len).length ≤ len := List.length_take_le _ _
    omega
  have hc : ACall P f [.p (.sl ((zs.take len).map (PV.int .i64)))] mem0 fun r S => r = .p (.bool true) := PFun.acall (pvs := [.sl ((zs.take len).map (PV.int .i64))]) (h _ hl) rfl rfl
  refine (hc.2 (fun _ _ => False) (fun _ => none) W #[.slice a len cap] hM rfl ?_).mono ?_
  · intro k r v h1 h2
    match k with
    | 0 =>
      simp only [List.getElem?_cons_zero, Option.some.injEq, List.getElem?_toArray] at h1 h2
      subst h1
      subst h2
      exact .p (rep_ints hF hr)
    | k + 1 => simp at h1
  · rintro e W' ⟨v, r, S', ow', rfl, rfl, hM', hv, tr, _⟩
    cases hv with | p hv => cases hv with | bool =>
    exact ⟨rfl, tr.os, tr.tape, tr.output, tr.size, fun β hb => (tr.fr β hb rfl).2⟩

/-- A row's slice of whole numbers is no longer than its weight allows. -/
theorem sized {H : Type} {enc : TypeId × Value → H} {P : Program} {W : World} {base : Nat} {spare : Nat → Bool} {held : Bool} {t e : TypeId} {k : IntKind} {a : Option Addr} {len cap : Nat} {d : DataW H} {ps : List MemPlace} {ts : List TypeId} {ds : List (DataW H)} {j : Nat}
    (hsz : (DataW.weightsEach P ts ds).all (· ≤ reachBytes) = true) (ht : ts[j]? = some t) (hd : ds[j]? = some d) (hu : P.underlying t = some (.slice e)) (he : P.underlying e = some (.int k)) (hc : P.cellsOf e = 1) {B : Nat} (hB : P.bytesOf e = B)
    (h : DataW.Trod enc P W base spare held t (.slice a len cap) d ps) : len * B ≤ 140737488351232 := by
  obtain ⟨fuel, hf⟩ := h
  rcases open_ints hu he hc hf with ⟨hcs, _⟩ | ⟨x, l, c, zs, hcs, _, hl, _, hz, hx, _, _⟩
  · simp [Value.cells] at hcs
    obtain ⟨rfl, rfl, rfl⟩ := hcs
    simp
  · simp [Value.cells] at hcs
    obtain ⟨rfl, rfl, rfl⟩ := hcs
    obtain ⟨hx, _⟩ := Prod.mk.inj hx
    subst hx
    have z := sized_slice hsz ht hd hu
    rw [hB] at z
    have hl2 : len ≤ zs.length := by
      rw [hz]
      split
      · exact hl
      · exact Nat.le_refl _
    have h1 : (lits (H := H) k (zs.take len)).length + (lits (H := H) k (zs.drop len)).length = zs.length := by
      simp [lits]
      omega
    rw [h1] at z
    exact Nat.le_trans (Nat.mul_le_mul_right _ hl2) z
end Go.Ag
/- 'gatewarden/gatekeep2.HeadersSet': for every list of whole numbers the law returns true, and the list reads behind the call as it read before; condition: the listed variables of Go's library hold what the program's text lays, which the card ties. -/
namespace Go.Proofs.YtkfnogdkfedaaaaGreatDoor.headersSet
open Go.ChangeShapes Go.WideShapes Go.ChangeAt Go.RowKit
set_option linter.unusedVariables false
theorem own : ownKnob Tryz.prog.godebug = none := by kernel_rfl
theorem laidOut : laidOutB Tryz.prog = true := by kernel_rfl
set_option maxRecDepth 100000 in
theorem lifted (os : Os) (started : os.Started) (H : Type) (enc : TypeId × Value → H) :
    ReturnsInHanded {} Tryz.checked os 4 .any (fun w args => (Rows.headersSetSpec.pre enc Tryz.prog Tryz.f4 Rows.headersSetRow.domain false w args ∧ laidMetH Tryz.prog Rows.headersSetRow.laid w) ∧ sizedMet enc Tryz.prog Tryz.f4 (OpenSpec.ofChange Rows.headersSetSpec) false w args)
      (Rows.headersSetSpec.post enc Tryz.prog Tryz.f4 false true false false) := by
  refine returnsInHanded_of_change_and (C := Tryz.checked) (X := fun w _ => laidMetH Tryz.prog Rows.headersSetRow.laid w) (fun _ _ _ hh h => h.of_heap hh) own started (by kernel_rfl) Tryz.func4
    (ChangeSpec.witness_shaped (enc := enc) (C := Tryz.checked) (os := os) (X := fun w _ => laidMetH Tryz.prog Rows.headersSetRow.laid w) false (World.laidAll Tryz.prog os Rows.headersSetRow.laid) #[.slice none 0 0] 8 (World.laidAll_os _ _ _)
      (World.shaped_of_ZipB (by kernel_rfl) (by kernel_rfl)) (by kernel_rfl) (by kernel_rfl) (by kernel_rfl)
      (by rw [MakeChecks.laidMetH_plain _ _ _ (by kernel_rfl)]; exact laidMet_laidAll _ (by kernel_rfl) (by kernel_rfl))) ?_
  intro W base args ds gs before hval0 hW hcnd hsz0 hL _
  have hsz : (DataW.weightsEach Tryz.prog (Tryz.f4.params.toList ++ Rows.headersSetSpec.plain.varTypes Tryz.prog) (ds ++ gs)).all (· ≤ reachBytes) = true := hsz0
  have hval : ∀ (j : Nat) t v, Tryz.f4.params[j]? = some t → args[j]? = some v → Value.okWide Tryz.prog W .any base t v := hval0
  have hW' := hW
  obtain ⟨p, q, hA0, hV, rfl, hfz, hnd⟩ := hW
  have hA : DataW.TrodAll enc Tryz.prog W 0 (fun _ => true) true Tryz.f4.params.toList args.toList ds p := hA0
  rw [Tryz.params4] at hA hval hsz
  obtain ⟨v0, vs0, d0, ds0, p0, q0, hargs, rfl, rfl, h0, r0⟩ := trodAll_cons hA
  obtain ⟨rfl, rfl, rfl⟩ := trodAll_nil r0
  obtain rfl : args = #[v0] := by cases args; simp_all
  obtain ⟨rfl, rfl⟩ := trodVars_none hV
  obtain ⟨a0, len0, cap0, rfl⟩ := okWide_slice Tryz.underlying22 (hval 0 22 v0 rfl rfl)
  have k0 := h0
  have lt0 : ∀ x ∈ p0, x.block < W.heap.size := by obtain ⟨m, hm⟩ := k0; exact DataW.trod_lt m _ _ _ hm
  obtain ⟨z0, w0⟩ : ∃ zs, Go.Ag.IsRow .i64 W a0 len0 cap0 zs := by
    obtain ⟨fuel, hf⟩ := h0
    rcases open_ints Tryz.underlying22 Tryz.underlying3 (by kernel_rfl) hf with ⟨hcs, _⟩ | ⟨x, l, c, zs, hcs, _, hl, hm, hz, _, hcell, hwz⟩
    · simp [Value.cells] at hcs
      obtain ⟨rfl, rfl, rfl⟩ := hcs
      exact ⟨[], .inl ⟨rfl, rfl, rfl, rfl⟩⟩
    · simp [Value.cells] at hcs
      obtain ⟨rfl, rfl, rfl⟩ := hcs
      exact ⟨zs, .inr ⟨_, rfl, hl, hm, by simpa using hz, hcell, hwz⟩⟩
  have y0 : len0 * 8 ≤ 140737488351232 := Go.Ag.sized hsz (j := 0) (t := 22) rfl rfl Tryz.underlying22 Tryz.underlying3 (by kernel_rfl) (by kernel_rfl) h0
  clear hA0 hval0 hsz0 hsz
  refine (Go.Ag.PFun.row Go.Ag.law4 w0 y0).mono fun e W' ⟨he, bel⟩ => ?_
  subst he
  exact ⟨_, rfl, _, _, _, [], _, [], hW', trodAll_mk1 (shut_bool Tryz.underlying4 _), (trodAll_cons_mk (Below.trod laidOut (by kernel_rfl) (of_decide_eq_true (by kernel_rfl)) k0 bel lt0) trodAll_mk0), rfl, bel.frame _, fun h => by cases h⟩
set_option maxHeartbeats 0 in
theorem joined : joinedFacts Tryz.pinned.checked.prog 4 Tryz.f4 Rows.headersSetSpec Rows.headersSetRow = true := by
  simp only [joinedFacts, Bool.and_eq_true]
  refine ⟨⟨⟨⟨⟨⟨⟨⟨⟨⟨⟨⟨⟨⟨⟨⟨⟨⟨⟨⟨⟨⟨⟨⟨⟨⟨⟨⟨⟨⟨⟨?_, ?_⟩, ?_⟩, ?_⟩, ?_⟩, ?_⟩, ?_⟩, ?_⟩, ?_⟩, ?_⟩, ?_⟩, ?_⟩, ?_⟩, ?_⟩, ?_⟩, ?_⟩, ?_⟩, ?_⟩, ?_⟩, ?_⟩, ?_⟩, ?_⟩, ?_⟩, ?_⟩, ?_⟩, ?_⟩, ?_⟩, ?_⟩, ?_⟩, ?_⟩, ?_⟩, ?_⟩ <;> as_aux_lemma => kernel_rfl
theorem said : Rows.HeadersSetSaid :=
  OpenClaim.holds_of_wide 4 Tryz.f4 rfl rfl rfl rfl rfl rfl rfl ⟨rfl, rfl, rfl, rfl, rfl⟩ rfl rfl rfl rfl rfl (by kernel_rfl) Tryz.func4 joined
    (of_decide_eq_true (by kernel_rfl)) (by unfold Func.isWrapper; first | (rw [if_pos (by decide +kernel)]; kernel_rfl) | (rw [if_neg (by decide +kernel)]; exact ⟨rfl, rfl⟩))
    (fun os started H enc _ => lifted os started H enc)
theorem plain (f : FuncId) (fn : Func) (hf : Tryz.pinned.checked.prog.funcNamed Tryz.f4.name = some f) (hfn : Tryz.pinned.checked.prog.funcs[f]? = some fn) :
    true = Tryz.pinned.checked.prog.looks [] ∧ ∀ (j : Nat) t, fn.params[j]? = some t → Tryz.pinned.checked.prog.wantsStandIn t = false := by
  obtain rfl : f = 4 := Option.some.inj ((show Tryz.prog.funcNamed Tryz.f4.name = some 4 by kernel_rfl).symm.trans hf) |>.symm
  obtain rfl : fn = Tryz.f4 := (Option.some.inj (Tryz.func4.symm.trans hfn)).symm
  refine ⟨by kernel_rfl, fun j t ht => ?_⟩
  rw [Tryz.params4] at ht
  obtain rfl : t = 22 := by simpa using Array.mem_of_getElem? ht
  exact (show Tryz.prog.wantsStandIn 22 = false by kernel_rfl)
theorem card : Rows.HeadersSetCardSaid :=
  Claim7.holds_tied_plain_at .later [] _ _ _ _ said (fun _ h => by cases h) (by kernel_rfl) (fun _ h => by cases h) headersSet_row_tie rfl ⟨rfl, rfl⟩ (by kernel_rfl) rfl plain (by kernel_rfl)
#print axioms card
end Go.Proofs.YtkfnogdkfedaaaaGreatDoor.headersSet
namespace Go.Proofs.YtkfnogdkfedaaaaGreatDoor
theorem headersSet_card : Rows.HeadersSetCardSaid := headersSet.card
end Go.Proofs.YtkfnogdkfedaaaaGreatDoor
