/- Several texts of one proof in one file, one after another, each with its own head: the machine's side of a law and the plain side; conditions: those of each theorem. -/
import Derived.Test.YtkfnogdkfedaaaaGreatDoorMPricesGrow2
import Derived.Below
import Derived.SizedLaws
import Derived.ChangeSlices
import Derived.Test.YtkfnogdkfedaaaaGreatDoorCards
import Derived.Test.YtkfnogdkfedaaaaGreatDoorTie
import Derived.WalkKit
import Derived.ProofKit
import Derived.OpenShut
import Derived.ShutString
import Derived.ChangeOld
import Derived.LaidMore
import Derived.Lay
import Derived.SevenTiedAt
import Derived.Stop.Joined
set_option linter.unusedVariables false
set_option linter.unusedSimpArgs false
/- PricesGrow: the stream's choices; small functions. -/
namespace Go.Ag
open Go
set_option linter.unusedVariables false
set_option linter.unusedSimpArgs false
set_option maxRecDepth 100000

theorem pf_evP {f : FuncId} {args : List PV} {rv : RV} {r : PV} (h : evFn tabP.find (fun _ _ _ => none) 200 20 f (args.map .p) mem0 = some (rv, mem0)) (hr : rv.still mem0 = some r) : PFun PG f args r := by
  refine (evFn_sound mix (BT.ok tabP tabP_ok) callOk_none 200 20 f _ mem0 _ _ rfl h).mono ?_
  rintro r' S'' ⟨rfl, rfl⟩
  exact hr
abbrev strs (xs : List (List UInt8)) : List PV := xs.map PV.str
def nine : List (List UInt8) := [[97], [97, 58, 42], [97, 58, 98], [97, 58, 98, 58, 42], [97, 58, 98, 58, 99], [98], [98, 58, 42], [98, 58, 99], [42]]
def kMaps : List UInt8 := [109, 97, 112, 115]
def kShop : List UInt8 := [115, 104, 111, 112]
def kOrders : List UInt8 := [111, 114, 100, 101, 114, 115]
theorem isScope_pf (s : List UInt8) (h : s ∈ kOrders :: nine) : PFun PG 150 [.str s] (.bool true) := by
  simp only [nine, kOrders, List.mem_cons, List.not_mem_nil, or_false] at h
  rcases h with rfl | rfl | rfl | rfl | rfl | rfl | rfl | rfl | rfl | rfl
  all_goals exact pf_evP (rv := .p (.bool true)) (by kernel_rfl) rfl

theorem some_sc (l : List Int) (a : Int) (rest : List Blk) (T : List (Nat × Nat × Nat)) (xs : List (List UInt8)) (hl : l.length ≤ 140737488355328) (h0 : 0 ≤ a) (h1 : a < 1000000000) (hx : 1 ≤ xs.length) (hx2 : xs.length ≤ 1000) :
    SC PG 18 [.ptr 0 0, .p (.sl (strs xs))] (stm l a rest T) fun r S' => ∃ v ∈ xs, r = .p (.str v) ∧ S' = stm l (a + 1) rest T := by
  have hlen : ((strs xs).length : Int) = xs.length := by simp
  refine walk_18 rfl (by simp) ?_
  constructor
  refine CallM.of rfl (next_sc l a _ rest T hl h0 h1 (by omega) (by omega)) ?_
  rintro r S' ⟨v, hv, rfl, rfl⟩
  constructor
  refine Elt.map hv.1 (by omega) fun x hx => ⟨rfl, ?_⟩
  constructor
  exact ⟨_, List.mem_of_getElem? hx, rfl, rfl⟩
theorem pick_sc (l : List Int) (a : Int) (rest : List Blk) (T : List (Nat × Nat × Nat)) (xs : List Int) (hl : l.length ≤ 140737488355328) (h0 : 0 ≤ a) (h1 : a < 1000000000) (hx : 1 ≤ xs.length) (hx2 : xs.length ≤ 1000) :
    SC PG 51 [.ptr 0 0, .p (ints xs)] (stm l a rest T) fun r S' => ∃ v ∈ xs, r = vi v ∧ S' = stm l (a + 1) rest T := by
  have hlen : ((xs.map (PV.int .i64)).length : Int) = xs.length := by simp
  refine walk_51 rfl (by simp) ?_
  constructor
  refine CallM.of rfl (next_sc l a _ rest T hl h0 h1 (by omega) (by omega)) ?_
  rintro r S' ⟨v, hv, rfl, rfl⟩
  constructor
  refine Elt.map hv.1 (by omega) fun x hx => ⟨rfl, ?_⟩
  constructor
  exact ⟨_, List.mem_of_getElem? hx, rfl, rfl⟩
theorem flip_sc (l : List Int) (a n : Int) (rest : List Blk) (T : List (Nat × Nat × Nat)) (hl : l.length ≤ 140737488355328) (h0 : 0 ≤ a) (h1 : a < 1000000000) (hn : 1 ≤ n) (hn2 : n ≤ 1000) :
    SC PG 12 [.ptr 0 0, vi n] (stm l a rest T) fun r S' => (r = vb true ∨ r = vb false) ∧ S' = stm l (a + 1) rest T := by
  refine walk_12 rfl (by simp) ?_
  constructor
  refine CallM.of rfl (next_sc l a _ rest T hl h0 h1 hn (by omega)) ?_
  rintro r S' ⟨v, hv, rfl, rfl⟩
  constructor
  refine ⟨fun h => ?_, fun h => ?_⟩
  · constructor; exact ⟨.inl rfl, rfl⟩
  · constructor; exact ⟨.inr rfl, rfl⟩

theorem stm_eq {l : List Int} {a a' : Int} {rest : List Blk} {T : Toks} (h : a = a') : stm l a rest T = stm l a' rest T := by rw [h]
theorem rsc_sc (l : List Int) (a : Int) (rest : List Blk) (T : Toks) (hl : l.length ≤ 140737488355328) (h0 : 0 ≤ a) (h1 : a < 900000000) :
    SC PG 28 [.ptr 0 0] (stm l a rest T) fun r S' => ∃ sc a' T', ((∀ s ∈ sc, s ∈ nine) ∧ sc.length ≤ 4) ∧ (a ≤ a' ∧ a' ≤ a + 5) ∧ Ext T T' ∧ Row T 1 9 (strs sc) T' r ∧ S' = stm l a' rest T' := by
  refine walk_28 rfl (by simp) ?_
  constructor
  refine CallM.of rfl (range_sc l a 0 4 rest T hl h0 (by omega) (by omega) (by omega) (by omega)) ?_
  rintro r S' ⟨n, hn, rfl, rfl⟩
  constructor
  refine LoopF.of (fun s : List (List UInt8) × RV × Toks => ([(0, .ptr 0 0), (3, s.2.1), (5, vi n), (6, vi s.1.length)], stm l (a + 1 + s.1.length) rest s.2.2)) (fun s => 4 - s.1.length) (fun s => (∀ x ∈ s.1, x ∈ nine) ∧ (s.1.length : Int) ≤ n ∧ Row T 1 9 (strs s.1) s.2.2 s.2.1 ∧ Ext T s.2.2) ([], .nsl true, T) ⟨by simp, by simp; omega, Row.nil, Ext.refl T⟩ rfl (stm_eq (by simp)) ?_
  rintro ⟨s, q, T1⟩ ⟨hs, hsn, hr, hx⟩
  simp only at hs hsn hr hx
  have hr2 := hr
  rcases hr with ⟨rfl, he⟩ | ⟨t, rfl, ht⟩
  all_goals
    constructor
    refine ⟨fun h2 => ?_, fun h2 => ?_⟩
    · have h2 : (s.length : Int) < n := h2
      constructor
      refine CallM.of rfl (some_sc l (a + 1 + s.length) rest _ nine hl (by omega) (by omega) (by decide) (by decide)) ?_
      rintro r S' ⟨v, hv, rfl, rfl⟩
      obtain ⟨t', T', k1, k2, k3⟩ := hr2.app (y := .str v) (b := 16) hx rfl (by simp [lim]; omega)
      constructor
      refine Opr.of (k1 _ rfl) ?_
      constructor
      refine ⟨by unfold inR; omega, ?_⟩
      refine ⟨(s ++ [v], .own (strs s ++ [.str v]) t', T'), ⟨?_, ?_, ?_, k3⟩, ?_, ?_, ?_⟩
      · intro x hx; simp at hx; rcases hx with h | rfl
        · exact hs x h
        · exact hv
      · simp; omega
      · simpa using k2
      · simp only [List.length_append, List.length_cons, List.length_nil]; omega
      · simp; rfl
      · exact stm_eq (by simp; omega)
    · constructor
      exact ⟨s, a + 1 + s.length, T1, ⟨hs, by omega⟩, ⟨by omega, by omega⟩, hx, hr2, rfl⟩

/-- A plan. -/
structure Pl where
  key : List UInt8
  prod : List UInt8
  base : Int
  free : Int
  tiers : List (Int × Int)
  limit : Int
  trial : Int
  asked : Bool
def tpv (t : Int × Int) : PV := .agg [.int .i64 t.1, .int .i64 t.2]
def Pl.cs (p : Pl) : List PV := [.str p.key, .str p.prod, .int .i64 p.base, .int .i64 p.free, .sl (p.tiers.map tpv), .int .i64 p.limit, .int .i64 p.trial, .bool p.asked]
def Pl.pv (p : Pl) : PV := .agg p.cs
/-- Tiers rise. -/
def Rise : Int → List (Int × Int) → Prop
  | _, [] => True
  | b, t :: r => b < t.1 ∧ t.1 ≤ 1000 ∧ 0 ≤ t.2 ∧ t.2 ≤ 1500 ∧ Rise t.1 r
structure Pl.ok (p : Pl) : Prop where
  prod : p.prod = kShop ∨ p.prod = kMaps
  base : 0 ≤ p.base ∧ p.base ≤ 3000
  free : 0 ≤ p.free ∧ p.free ≤ 100
  limit : -1 ≤ p.limit ∧ p.limit ≤ 1000
  trial : 0 ≤ p.trial ∧ p.trial ≤ 2
  few : p.tiers.length ≤ 3
  rise : Rise 0 p.tiers
  first : ∀ t ∈ p.tiers.head?, t.1 = 1
def prods (sc : List (List UInt8)) : PV := .sl [.agg [.str kMaps, .sl (strs sc)], .agg [.str kShop, .sl [.str kOrders]]]
def cat (sc : List (List UInt8)) (ps : List Pl) : PV := .agg [prods sc, .sl (ps.map Pl.pv)]
def four : List (List UInt8) := [[98, 105, 103], [102, 114, 101, 101], [109, 105, 100], [115, 109, 97, 108, 108]]
structure CatOk (sc : List (List UInt8)) (ps : List Pl) : Prop where
  hsc : (∀ s ∈ sc, s ∈ nine) ∧ sc.length ≤ 4
  hps : ∀ p ∈ ps, p.ok
  hkeys : (ps.map Pl.key).Sublist four
theorem key_pf (s : List UInt8) (h : s ∈ kMaps :: kShop :: four) : PFun PG 155 [.str s] (.bool true) := by
  simp only [four, kMaps, kShop, List.mem_cons, List.not_mem_nil, or_false] at h
  rcases h with rfl | rfl | rfl | rfl | rfl | rfl
  all_goals exact pf_evP (rv := .p (.bool true)) (by kernel_rfl) rfl
theorem scopes_pf (sc : List (List UInt8)) (h : ∀ s ∈ sc, s ∈ kOrders :: nine) (hl : sc.length ≤ 50) : PFun PG 89 [.sl (strs sc)] (.int .i64 0) := by
  have hlen : ((strs sc).length : Int) = sc.length := by simp
  refine walk_89 rfl (by simp) ?_
  constructor
  refine Cmp.no (by omega) ?_
  constructor
  refine LoopF.of (fun i : Nat => ([(8, .p (.sl (strs sc))), (9, vi (strs sc).length), (10, vi i)], mem0)) (fun i => sc.length - i) (fun i => i ≤ sc.length) 0 (Nat.zero_le _) rfl rfl ?_
  intro i hi
  constructor
  refine ⟨fun h1 => ?_, fun h1 => ?_⟩
  · rw [hlen] at h1
    constructor
    refine Elt.map (by omega) (by omega) fun x hx => ⟨rfl, ?_⟩
    constructor
    refine CallV.of (isScope_pf x (h x (List.mem_of_getElem? hx))) ?_
    constructor
    refine ⟨by unfold inR; omega, ?_⟩
    exact ⟨i + 1, by omega, by omega, rfl, rfl⟩
  · constructor
    exact ⟨rfl⟩
theorem prodAt_shop (X Y Z : PV) : PFun PG 108 [.agg [.sl [.agg [.str kMaps, X], .agg [.str kShop, Y]], Z], .str kShop] (.tup [.int .i64 1, .bool true]) :=
  pf_evP (rv := .tup [.p (.int .i64 1), .p (.bool true)]) (by kernel_rfl) rfl
theorem prodAt_maps (X Y Z : PV) : PFun PG 108 [.agg [.sl [.agg [.str kMaps, X], .agg [.str kShop, Y]], Z], .str kMaps] (.tup [.int .i64 0, .bool true]) :=
  pf_evP (rv := .tup [.p (.int .i64 0), .p (.bool true)]) (by kernel_rfl) rfl
theorem prods_pf (sc : List (List UInt8)) (h : (∀ s ∈ sc, s ∈ nine) ∧ sc.length ≤ 4) : PFun PG 166 [prods sc] (.int .i64 0) := by
  refine walk_166 rfl (by simp) ?_
  constructor
  refine Cmp.no (by simp) ?_
  constructor
  refine LoopF.of (fun i : Nat => ([(0, .p (prods sc)), (9, .p (prods sc)), (10, vi 2), (11, vi i)], mem0)) (fun i => 2 - i) (fun i => i ≤ 2) 0 (by omega) rfl rfl ?_
  intro i hi
  rcases (by omega : i = 0 ∨ i = 1 ∨ i = 2) with rfl | rfl | rfl
  · constructor
    refine Cmp.yes (by simp) ?_
    constructor
    refine Elt.mk' (by simp) rfl ⟨rfl, ?_⟩
    constructor
    refine CallV.of (key_pf kMaps (by decide)) ?_
    constructor
    refine Cmp.no (by simp) ?_
    constructor
    refine CallV.of (scopes_pf sc (fun s hs => List.mem_cons_of_mem _ (h.1 s hs)) (by omega)) ?_
    constructor
    refine Cmp.yes rfl ?_
    constructor
    refine ⟨by unfold inR; simp, ?_⟩
    exact ⟨1, by omega, by omega, rfl, rfl⟩
  · constructor
    refine Cmp.yes (by simp) ?_
    constructor
    refine Elt.mk' (by simp) rfl ⟨rfl, ?_⟩
    constructor
    refine CallV.of (key_pf kShop (by decide)) ?_
    constructor
    refine Cmp.yes (by simp) ?_
    constructor
    refine ⟨by unfold inR; simp, ?_⟩
    constructor
    refine Elt.mk' (by simp) rfl ⟨rfl, ?_⟩
    constructor
    refine Opr.of (r := .p (.bool false)) rfl ?_
    constructor
    refine CallV.of (scopes_pf [kOrders] (by simp) (by simp)) ?_
    constructor
    refine Cmp.yes rfl ?_
    constructor
    refine ⟨by unfold inR; simp, ?_⟩
    exact ⟨2, by omega, by omega, rfl, rfl⟩
  · constructor
    refine Cmp.no (by simp) ?_
    constructor
    exact ⟨rfl⟩
end Go.Ag
/- PricesGrow: a right catalog is right; prices. -/
namespace Go.Ag
open Go
set_option linter.unusedVariables false
set_option linter.unusedSimpArgs false
set_option maxRecDepth 100000

theorem Rise.get : ∀ {ts : List (Int × Int)} {b : Int} {i : Nat} {t : Int × Int}, Rise b ts → ts[i]? = some t → b < t.1 ∧ t.1 ≤ 1000 ∧ 0 ≤ t.2 ∧ t.2 ≤ 1500
  | [], _, _, _, _, h => by simp at h
  | x :: r, b, 0, t, h, hi => by
    simp at hi; subst hi
    exact ⟨h.1, h.2.1, h.2.2.1, h.2.2.2.1⟩
  | x :: r, b, i + 1, t, h, hi => by
    have := Rise.get h.2.2.2.2 (by simpa using hi)
    have := h.1
    omega
theorem Rise.adj : ∀ {ts : List (Int × Int)} {b : Int} {i : Nat} {s t : Int × Int}, Rise b ts → ts[i]? = some s → ts[i + 1]? = some t → s.1 < t.1
  | [], _, _, _, _, _, h, _ => by simp at h
  | x :: r, b, 0, s, t, h, hi, hj => by
    simp at hi; subst hi
    exact (Rise.get (i := 0) h.2.2.2.2 (by simpa using hj)).1
  | x :: r, b, i + 1, s, t, h, hi, hj => Rise.adj (i := i) h.2.2.2.2 (by simpa using hi) (by simpa using hj)

theorem tiers_pf (ts : List (Int × Int)) (hr : Rise 0 ts) (hl : ts.length ≤ 3) (hf : ∀ t ∈ ts.head?, t.1 = 1) : PFun PG 219 [.sl (ts.map tpv)] (.int .i64 0) := by
  have hlen : ((ts.map tpv).length : Int) = ts.length := by simp
  refine walk_219 rfl (by simp) ?_
  constructor
  refine Cmp.no (by omega) ?_
  constructor
  refine LoopF.of (fun i : Nat => ([(0, .p (.sl (ts.map tpv))), (8, .p (.sl (ts.map tpv))), (9, vi (ts.map tpv).length), (10, vi i)], mem0)) (fun i => ts.length - i) (fun i => i ≤ ts.length) 0 (by omega) rfl rfl ?_
  intro i hi
  constructor
  refine ⟨fun h1 => ?_, fun h1 => ?_⟩
  · rw [hlen] at h1
    constructor
    refine Elt.map (by omega) (by omega) fun x hx => ⟨rfl, ?_⟩
    have hg := hr.get hx
    constructor
    refine CallV.of (inside_pf _ _ _ (by omega) (by omega)) ?_
    constructor
    refine CallV.of (inside_pf _ _ _ (by omega) (by omega)) ?_
    constructor
    refine ⟨fun h2 => ?_, fun h2 => ?_⟩
    · constructor
      refine ⟨by unfold inR; omega, ?_⟩
      constructor
      refine Elt.map (by omega) (by omega) fun y hy => ⟨rfl, ?_⟩
      have ha : y.1 < x.1 := hr.adj (i := i - 1) (by rw [show ((i : Int) - 1).toNat = i - 1 by omega] at hy; exact hy) (by rw [show i - 1 + 1 = i by omega]; simpa using hx)
      constructor
      refine Cmp.no (by omega) ?_
      constructor
      refine ⟨by unfold inR; omega, ?_⟩
      exact ⟨i + 1, by omega, by omega, rfl, rfl⟩
    · constructor
      refine ⟨by unfold inR; omega, ?_⟩
      exact ⟨i + 1, by omega, by omega, rfl, rfl⟩
  · constructor
    refine ⟨fun h2 => ?_, fun h2 => ?_⟩
    · constructor
      refine Elt.map (by omega) (by omega) fun y hy => ⟨rfl, ?_⟩
      have hy1 : y.1 = 1 := by
        cases ts with
        | nil => simp at hy
        | cons x r => simp at hy; subst hy; exact hf _ (by simp)
      constructor
      refine Cmp.yes hy1 ?_
      constructor
      exact ⟨rfl⟩
    · constructor
      exact ⟨rfl⟩

theorem rising : four.Pairwise (fun a b => strBin .leq b a = some (.bool false)) := by
  unfold four
  refine .cons ?_ (.cons ?_ (.cons ?_ (.cons ?_ .nil)))
  all_goals intro b hb; simp at hb
  · rcases hb with rfl | rfl | rfl <;> rfl
  · rcases hb with rfl | rfl <;> rfl
  · subst hb; rfl
theorem CatOk.adj {sc : List (List UInt8)} {ps : List Pl} (h : CatOk sc ps) {i : Nat} {p q : Pl} (hp : ps[i]? = some p) (hq : ps[i + 1]? = some q) : strBin .leq q.key p.key = some (.bool false) := by
  have hk := rising.sublist h.hkeys
  rw [List.pairwise_iff_getElem] at hk
  have h1 := (List.getElem?_eq_some_iff.1 hp)
  have h2 := (List.getElem?_eq_some_iff.1 hq)
  obtain ⟨l1, e1⟩ := h1
  obtain ⟨l2, e2⟩ := h2
  have := hk i (i + 1) (by simpa using l1) (by simpa using l2) (by omega)
  simpa [e1, e2] using this
theorem CatOk.key {sc : List (List UInt8)} {ps : List Pl} (h : CatOk sc ps) {p : Pl} (hp : p ∈ ps) : p.key ∈ four := h.hkeys.subset (List.mem_map_of_mem hp)
theorem CatOk.len {sc : List (List UInt8)} {ps : List Pl} (h : CatOk sc ps) : ps.length ≤ 4 := by
  have := h.hkeys.length_le
  simpa [four] using this

theorem plan_pf (sc : List (List UInt8)) (ps : List Pl) (h : CatOk sc ps) (i : Nat) (hi : i < ps.length) : PFun PG 167 [cat sc ps, .int .i64 i] (.int .i64 0) := by
  refine walk_167 rfl (by simp) ?_
  constructor
  refine Elt.map (by omega) (by omega) fun p hp => ⟨rfl, ?_⟩
  have hm := List.mem_of_getElem? hp
  have ok := h.hps p hm
  have hk := h.key hm
  have hb := ok.base
  have hfr := ok.free
  have hlm := ok.limit
  have htr := ok.trial
  have hl4 := h.len
  constructor
  refine CallV.of (key_pf p.key (List.mem_cons_of_mem _ (List.mem_cons_of_mem _ hk))) ?_
  constructor
  refine ⟨fun h2 => ?_, fun h2 => ?_⟩
  case' refine_1 =>
    constructor
    refine ⟨by unfold inR; omega, ?_⟩
    constructor
    refine Elt.map (by omega) (by omega) fun q hq => ⟨rfl, ?_⟩
    have ha := h.adj (i := i - 1) (p := q) (q := p) (by rw [show ((i : Int) - 1).toNat = i - 1 by omega] at hq; exact hq) (by rw [show i - 1 + 1 = i by omega]; simpa using hp)
    constructor
    refine Opr.of (r := .p (.bool false)) (by rw [ha]; rfl) ?_
  all_goals
    have hprod : ∃ n, PFun PG 108 [cat sc ps, .str p.prod] (.tup [.int .i64 n, .bool true]) := by
      rcases ok.prod with e | e
      · exact ⟨1, by rw [e]; exact prodAt_shop _ _ _⟩
      · exact ⟨0, by rw [e]; exact prodAt_maps _ _ _⟩
    obtain ⟨n, hn⟩ := hprod
    constructor
    refine CallV.of hn ?_
    constructor
    refine CallV.of (inside_pf _ _ _ (by omega) (by omega)) ?_
    constructor
    refine CallV.of (inside_pf _ _ _ (by omega) (by omega)) ?_
    constructor
    refine CallV.of (tiers_pf p.tiers ok.rise ok.few ok.first) ?_
    constructor
    refine Cmp.yes rfl ?_
    constructor
    refine CallV.of (inside_pf _ _ _ (by omega) (by omega)) ?_
    constructor
    refine CallV.of (inside_pf _ _ _ (by omega) (by omega)) ?_
    constructor
    exact ⟨rfl⟩

theorem cat_pf (sc : List (List UInt8)) (ps : List Pl) (h : CatOk sc ps) : PFun PG 107 [cat sc ps] (.int .i64 0) := by
  have hl4 := h.len
  have hlen : ((ps.map Pl.pv).length : Int) = ps.length := by simp
  refine walk_107 rfl (by simp) ?_
  constructor
  refine CallV.of (prods_pf sc h.hsc) ?_
  constructor
  refine Cmp.yes rfl ?_
  constructor
  refine Cmp.no (by omega) ?_
  constructor
  refine LoopF.of (fun i : Nat => ([(1, .la 1 0), (18, vi (ps.map Pl.pv).length), (19, vi i)], ⟨[(1, [.p (prods sc), .p (.sl (ps.map Pl.pv))])], [], []⟩)) (fun i => ps.length - i) (fun i => i ≤ ps.length) 0 (by omega) rfl rfl ?_
  intro i hi
  constructor
  refine ⟨fun h1 => ?_, fun h1 => ?_⟩
  · rw [hlen] at h1
    constructor
    refine CallV.of (plan_pf sc ps h i (by omega)) ?_
    constructor
    refine Cmp.yes rfl ?_
    constructor
    refine ⟨by unfold inR; omega, ?_⟩
    exact ⟨i + 1, by omega, by omega, rfl, rfl⟩
  · constructor
    exact ⟨rfl⟩

/-- What tiers cost. -/
def priceSum (above : Int) : List (Int × Int) → Int
  | [] => 0
  | [t] => max 0 (above - t.1 + 1) * t.2
  | t :: u :: r => max 0 (min above (u.1 - 1) - t.1 + 1) * t.2 + priceSum above (u :: r)
def Pl.price (p : Pl) (calls : Int) : Int := priceSum (max 0 (calls - p.free)) p.tiers / 1000
theorem priceSum_nonneg (a : Int) : ∀ {ts : List (Int × Int)} {b : Int}, Rise b ts → 0 ≤ priceSum a ts
  | [], _, _ => by simp [priceSum]
  | [t], b, h => by
    have := h.2.2.1
    exact Int.mul_nonneg (by omega) this
  | t :: u :: r, b, h => by
    have h1 := priceSum_nonneg a h.2.2.2.2
    have h2 := h.2.2.1
    have : 0 ≤ max 0 (min a (u.1 - 1) - t.1 + 1) * t.2 := Int.mul_nonneg (by omega) h2
    simp only [priceSum]
    omega
theorem priceSum_mono {a a' : Int} (haa : a ≤ a') : ∀ {ts : List (Int × Int)} {b : Int}, Rise b ts → priceSum a ts ≤ priceSum a' ts
  | [], _, _ => by simp [priceSum]
  | [t], b, h => by
    have := h.2.2.1
    exact Int.mul_le_mul_of_nonneg_right (by omega) this
  | t :: u :: r, b, h => by
    have h1 := priceSum_mono haa h.2.2.2.2
    have h2 := h.2.2.1
    have : max 0 (min a (u.1 - 1) - t.1 + 1) * t.2 ≤ max 0 (min a' (u.1 - 1) - t.1 + 1) * t.2 := Int.mul_le_mul_of_nonneg_right (by omega) h2
    simp only [priceSum]
    omega
theorem Pl.price_mono {p : Pl} (ok : p.ok) {c c' : Int} (h : c ≤ c') : p.price c ≤ p.price c' :=
  Int.ediv_le_ediv (by omega) (priceSum_mono (by omega) ok.rise)
/-- The sum over what is left. -/
theorem priceSum_drop (a : Int) : ∀ (ts : List (Int × Int)) (i : Nat) (t : Int × Int), ts[i]? = some t →
    priceSum a (ts.drop i) = max 0 ((match ts[i + 1]? with | some u => min a (u.1 - 1) | none => a) - t.1 + 1) * t.2 + priceSum a (ts.drop (i + 1))
  | [], _, _, h => by simp at h
  | [x], 0, t, h => by simp at h; subst h; simp [priceSum]
  | x :: y :: r, 0, t, h => by simp at h; subst h; simp [priceSum]
  | x :: r, i + 1, t, h => by
    have := priceSum_drop a r i t (by simpa using h)
    simpa using this

theorem mn_max (a b : Int) (S : Mem) : opX (.mnx true) [vi a, vi b] S = some (vi (max a b), S) := by
  show some (RV.p (PV.int .i64 (if b > a then b else a)), S) = _
  rw [show (if b > a then b else a) = max a b by split <;> omega]
theorem mn_min (a b : Int) (S : Mem) : opX (.mnx false) [vi a, vi b] S = some (vi (min a b), S) := by
  show some (RV.p (PV.int .i64 (if b < a then b else a)), S) = _
  rw [show (if b < a then b else a) = min a b by split <;> omega]
theorem price_pf (p : Pl) (ok : p.ok) (calls : Int) (h0 : 0 ≤ calls) (h1 : calls ≤ 1000) : PFun PG 109 [p.pv, .int .i64 calls] (.int .i64 (p.price calls)) := by
  have hfr := ok.free
  have hfew := ok.few
  have hlen : ((p.tiers.map tpv).length : Int) = p.tiers.length := by simp
  refine walk_109 rfl (by simp) ?_
  constructor
  refine ⟨by unfold inR; omega, ?_⟩
  constructor
  refine Opr.of (mn_max 0 (calls - p.free) _) ?_
  generalize hab : max 0 (calls - p.free) = above
  have hab0 : 0 ≤ above ∧ above ≤ 1000 := by omega
  constructor
  refine LoopF.of (fun s : Nat × Int => ([(2, .la 2 0), (5, vi above), (6, vi s.2), (16, .p (.sl (p.tiers.map tpv))), (17, vi (p.tiers.map tpv).length), (18, vi s.1)], ⟨[(2, p.cs.map .p)], [], []⟩)) (fun s => p.tiers.length - s.1) (fun s => s.1 ≤ p.tiers.length ∧ (0 ≤ s.2 ∧ s.2 ≤ 2000000 * s.1) ∧ s.2 + priceSum above (p.tiers.drop s.1) = priceSum above p.tiers) (0, 0) ⟨by omega, ⟨by omega, by simp⟩, by simp⟩ rfl rfl ?_
  rintro ⟨i, s⟩ ⟨hi, hs, hsum⟩
  simp only at hi hs hsum
  constructor
  refine ⟨fun h2 => ?_, fun h2 => ?_⟩
  · have h2 : (i : Int) < (p.tiers.map tpv).length := h2
    rw [hlen] at h2
    constructor
    refine Elt.map (by omega) (by omega) fun x hx => ⟨rfl, ?_⟩
    have hx : p.tiers[i]? = some x := hx
    have hg := ok.rise.get hx
    have hd := priceSum_drop above p.tiers i x hx
    have hb1 : ∀ y : Int, 0 ≤ y ∧ y ≤ 1001 → 0 ≤ y * x.2 ∧ y * x.2 ≤ 1501500 := fun y hy => ⟨Int.mul_nonneg hy.1 hg.2.2.1, by
      have := Int.mul_le_mul hy.2 hg.2.2.2 hg.2.2.1 (by omega)
      omega⟩
    constructor
    refine ⟨by unfold inR; simp only; omega, ?_⟩
    constructor
    refine ⟨fun h3 => ?_, fun h3 => ?_⟩
    · have h3 : (i : Int) + 1 < (p.tiers.map tpv).length := h3
      rw [hlen] at h3
      constructor
      refine ⟨by unfold inR; simp only; omega, ?_⟩
      constructor
      refine Elt.map (by simp only; omega) (by simp only; omega) fun y hy => ⟨rfl, ?_⟩
      have hy : p.tiers[i + 1]? = some y := by rw [show ((i : Int) + 1).toNat = i + 1 by omega] at hy; exact hy
      have hg2 := ok.rise.get hy
      rw [hy] at hd
      simp only at hd
      constructor
      refine ⟨by unfold inR; omega, ?_⟩
      constructor
      refine Opr.of (mn_min above (y.1 - 1) _) ?_
      constructor
      refine ⟨by unfold inR; omega, ?_⟩
      constructor
      refine ⟨by unfold inR; omega, ?_⟩
      constructor
      refine Opr.of (mn_max 0 _ _) ?_
      have hb := hb1 (max 0 (min above (y.1 - 1) - x.1 + 1)) ⟨by omega, by omega⟩
      constructor
      refine ⟨by unfold inR; omega, ?_⟩
      constructor
      refine ⟨by unfold inR; simp only; omega, ?_⟩
      constructor
      refine ⟨by unfold inR; simp only; omega, ?_⟩
      exact ⟨(i + 1, s + max 0 (min above (y.1 - 1) - x.1 + 1) * x.2), ⟨by simp only; omega, ⟨by simp only; omega, by simp only; omega⟩, by simp only; omega⟩, by simp only; omega, rfl, rfl⟩
    · have h3 : ¬ (i : Int) + 1 < (p.tiers.map tpv).length := h3
      rw [hlen] at h3
      have hn : p.tiers[i + 1]? = none := by rw [List.getElem?_eq_none_iff]; omega
      rw [hn] at hd
      simp only at hd
      constructor
      refine ⟨by unfold inR; omega, ?_⟩
      constructor
      refine ⟨by unfold inR; omega, ?_⟩
      constructor
      refine Opr.of (mn_max 0 _ _) ?_
      have hb := hb1 (max 0 (above - x.1 + 1)) ⟨by omega, by omega⟩
      constructor
      refine ⟨by unfold inR; omega, ?_⟩
      constructor
      refine ⟨by unfold inR; simp only; omega, ?_⟩
      constructor
      refine ⟨by unfold inR; simp only; omega, ?_⟩
      exact ⟨(i + 1, s + max 0 (above - x.1 + 1) * x.2), ⟨by simp only; omega, ⟨by simp only; omega, by simp only; omega⟩, by simp only; omega⟩, by simp only; omega, rfl, rfl⟩
  · have h2 : ¬ (i : Int) < (p.tiers.map tpv).length := h2
    rw [hlen] at h2
    have hd : p.tiers.drop i = [] := List.drop_eq_nil_iff.2 (by omega)
    rw [hd] at hsum
    simp only [priceSum] at hsum
    constructor
    refine ⟨by simp, ?_⟩
    constructor
    refine ⟨?_⟩
    show some (PV.int .i64 (IntKind.i64.wrap (s.tdiv 1000))) = _
    rw [Int.tdiv_eq_ediv_of_nonneg hs.1, IntWalk.i64_in _ (by omega)]
    unfold Pl.price
    rw [hab, ← hsum, Int.add_zero]
end Go.Ag
/- PricesGrow: plans are found; the cheapest. -/
namespace Go.Ag
open Go
set_option linter.unusedVariables false
set_option linter.unusedSimpArgs false
set_option maxRecDepth 100000

theorem planOf_pf (sc : List (List UInt8)) (ps : List Pl) (h : CatOk sc ps) (p : Pl) (hp : p ∈ ps) : PFun PG 110 [cat sc ps, .str p.key] (.tup [p.pv, .bool true]) := by
  have hk := h.hkeys
  have go : ∀ X : PV, PFun PG 110 [.agg [X, .sl (ps.map Pl.pv)], .str p.key] (.tup [p.pv, .bool true]) := by
    intro X
    clear h
    unfold four at hk
    rcases ps with _ | ⟨p1, _ | ⟨p2, _ | ⟨p3, _ | ⟨p4, _ | ⟨p5, ps⟩⟩⟩⟩⟩
    · simp at hp
    all_goals
      simp only [List.map_cons, List.map_nil] at hk
    · rcases p1 with ⟨k1, a1, b1, c1, d1, e1, f1, g1⟩
      simp only at hk
      iterate 5 all_goals try (rcases hk with _ | ⟨_, hk⟩ | ⟨_, hk⟩)
      all_goals
        simp only [List.mem_cons, List.not_mem_nil, or_false] at hp
        subst hp
        exact pf_evP (rv := .tup [.agg ((Pl.cs ⟨_, a1, b1, c1, d1, e1, f1, g1⟩).map .p), .p (.bool true)]) (by kernel_rfl) rfl
    · rcases p1 with ⟨k1, a1, b1, c1, d1, e1, f1, g1⟩
      rcases p2 with ⟨k2, a2, b2, c2, d2, e2, f2, g2⟩
      simp only at hk
      iterate 5 all_goals try (rcases hk with _ | ⟨_, hk⟩ | ⟨_, hk⟩)
      all_goals
        simp only [List.mem_cons, List.not_mem_nil, or_false] at hp
        rcases hp with rfl | rfl
        · exact pf_evP (rv := .tup [.agg ((Pl.cs ⟨_, a1, b1, c1, d1, e1, f1, g1⟩).map .p), .p (.bool true)]) (by kernel_rfl) rfl
        · exact pf_evP (rv := .tup [.agg ((Pl.cs ⟨_, a2, b2, c2, d2, e2, f2, g2⟩).map .p), .p (.bool true)]) (by kernel_rfl) rfl
    · rcases p1 with ⟨k1, a1, b1, c1, d1, e1, f1, g1⟩
      rcases p2 with ⟨k2, a2, b2, c2, d2, e2, f2, g2⟩
      rcases p3 with ⟨k3, a3, b3, c3, d3, e3, f3, g3⟩
      simp only at hk
      iterate 5 all_goals try (rcases hk with _ | ⟨_, hk⟩ | ⟨_, hk⟩)
      all_goals
        simp only [List.mem_cons, List.not_mem_nil, or_false] at hp
        rcases hp with rfl | rfl | rfl
        · exact pf_evP (rv := .tup [.agg ((Pl.cs ⟨_, a1, b1, c1, d1, e1, f1, g1⟩).map .p), .p (.bool true)]) (by kernel_rfl) rfl
        · exact pf_evP (rv := .tup [.agg ((Pl.cs ⟨_, a2, b2, c2, d2, e2, f2, g2⟩).map .p), .p (.bool true)]) (by kernel_rfl) rfl
        · exact pf_evP (rv := .tup [.agg ((Pl.cs ⟨_, a3, b3, c3, d3, e3, f3, g3⟩).map .p), .p (.bool true)]) (by kernel_rfl) rfl
    · rcases p1 with ⟨k1, a1, b1, c1, d1, e1, f1, g1⟩
      rcases p2 with ⟨k2, a2, b2, c2, d2, e2, f2, g2⟩
      rcases p3 with ⟨k3, a3, b3, c3, d3, e3, f3, g3⟩
      rcases p4 with ⟨k4, a4, b4, c4, d4, e4, f4, g4⟩
      simp only at hk
      iterate 5 all_goals try (rcases hk with _ | ⟨_, hk⟩ | ⟨_, hk⟩)
      all_goals
        simp only [List.mem_cons, List.not_mem_nil, or_false] at hp
        rcases hp with rfl | rfl | rfl | rfl
        · exact pf_evP (rv := .tup [.agg ((Pl.cs ⟨_, a1, b1, c1, d1, e1, f1, g1⟩).map .p), .p (.bool true)]) (by kernel_rfl) rfl
        · exact pf_evP (rv := .tup [.agg ((Pl.cs ⟨_, a2, b2, c2, d2, e2, f2, g2⟩).map .p), .p (.bool true)]) (by kernel_rfl) rfl
        · exact pf_evP (rv := .tup [.agg ((Pl.cs ⟨_, a3, b3, c3, d3, e3, f3, g3⟩).map .p), .p (.bool true)]) (by kernel_rfl) rfl
        · exact pf_evP (rv := .tup [.agg ((Pl.cs ⟨_, a4, b4, c4, d4, e4, f4, g4⟩).map .p), .p (.bool true)]) (by kernel_rfl) rfl
    · have := hk.length_le; simp at this
  exact go _

theorem pr_pf (sc : List (List UInt8)) (ps : List Pl) (h : CatOk sc ps) (p : Pl) (hp : p ∈ ps) (calls : Int) (h0 : 0 ≤ calls) (h1 : calls ≤ 1000) : PFun PG 50 [cat sc ps, .str p.key, .int .i64 calls] (.tup [.int .i64 (p.price calls), .int .i64 0]) := by
  refine walk_50 rfl (by simp) ?_
  constructor
  refine CallV.of (cat_pf sc ps h) ?_
  constructor
  refine Cmp.yes rfl ?_
  constructor
  refine CallV.of (planOf_pf sc ps h p hp) ?_
  constructor
  refine CallV.of (inside_pf _ _ _ (by omega) (by omega)) ?_
  constructor
  refine CallV.of (price_pf p (h.hps p hp) calls h0 h1) ?_
  constructor
  exact ⟨rfl⟩

/-- Whether a plan is for so many calls. -/
def Pl.fits (p : Pl) (calls : Int) : Prop := p.prod = kShop ∧ (p.limit < 0 ∨ calls ≤ p.limit)
def Pl.cost (p : Pl) (calls : Int) : Int := p.base + p.price calls
instance (p : Pl) (calls : Int) : Decidable (p.fits calls) := by unfold Pl.fits; infer_instance
def step (calls : Int) (st : List UInt8 × Int) (p : Pl) : List UInt8 × Int :=
  if p.fits calls then (if st.1 = [] ∨ p.cost calls < st.2 then (p.key, p.cost calls) else st) else st
def best (calls : Int) (ps : List Pl) : List UInt8 × Int := ps.foldl (step calls) ([], 0)
theorem price_small {p : Pl} (ok : p.ok) {calls : Int} (h0 : 0 ≤ calls) (h1 : calls ≤ 1000) : 0 ≤ p.price calls ∧ p.price calls ≤ 10000 := by
  have hfr := ok.free
  have hfew := ok.few
  have key : ∀ (a : Int), a ≤ 1000 → ∀ (ts : List (Int × Int)) (b : Int), 0 ≤ b → Rise b ts → priceSum a ts ≤ 1501500 * ts.length := by
    intro a ha ts
    induction ts with
    | nil => intro b hb hr; simp [priceSum]
    | cons t r ih =>
      intro b hb hr
      have hb1 : ∀ y : Int, 0 ≤ y ∧ y ≤ 1001 → y * t.2 ≤ 1501500 := fun y hy => by
        have := Int.mul_le_mul hy.2 hr.2.2.2.1 hr.2.2.1 (by omega)
        omega
      have h1 := hr.1
      have h2 := ih t.1 (by omega) hr.2.2.2.2
      cases r with
      | nil =>
        have := hb1 (max 0 (a - t.1 + 1)) ⟨by omega, by omega⟩
        simp only [priceSum, List.length_cons, List.length_nil]
        omega
      | cons u r =>
        have := hb1 (max 0 (min a (u.1 - 1) - t.1 + 1)) ⟨by omega, by omega⟩
        simp only [priceSum, List.length_cons] at h2 ⊢
        omega
  have h3 := key (max 0 (calls - p.free)) (by omega) p.tiers 0 (by omega) ok.rise
  have h4 := priceSum_nonneg (max 0 (calls - p.free)) ok.rise
  unfold Pl.price
  omega
theorem cheap_pf (sc : List (List UInt8)) (ps : List Pl) (h : CatOk sc ps) (calls : Int) (h0 : 0 ≤ calls) (h1 : calls ≤ 1000) :
    PFun PG 49 [cat sc ps, .str kShop, .int .i64 calls] (if (best calls ps).1 = [] then .tup [.str [], .int .i64 0, .int .i64 8] else .tup [.str (best calls ps).1, .int .i64 (best calls ps).2, .int .i64 0]) := by
  have hl4 := h.len
  have hlen : ((ps.map Pl.pv).length : Int) = ps.length := by simp
  refine walk_49 rfl (by simp) ?_
  constructor
  refine CallV.of (cat_pf sc ps h) ?_
  constructor
  refine Cmp.yes rfl ?_
  constructor
  refine CallV.of (prodAt_shop _ _ _) ?_
  constructor
  refine CallV.of (inside_pf _ _ _ (by omega) (by omega)) ?_
  constructor
  refine LoopF.of (fun s : Nat × (List UInt8 × Int) => ([(1, .p (.str kShop)), (2, vi calls), (12, .p (.str s.2.1)), (13, vi s.2.2), (33, .p (.sl (ps.map Pl.pv))), (34, vi (ps.map Pl.pv).length), (35, vi s.1)], ⟨[], [], []⟩)) (fun s => ps.length - s.1) (fun s => s.1 ≤ ps.length ∧ s.2 = best calls (ps.take s.1)) (0, ([], 0)) ⟨by omega, rfl⟩ rfl rfl ?_
  rintro ⟨i, b, n⟩ ⟨hi, hb⟩
  simp only at hi hb
  constructor
  refine ⟨fun h2 => ?_, fun h2 => ?_⟩
  · have h2 : (i : Int) < (ps.map Pl.pv).length := h2
    rw [hlen] at h2
    constructor
    refine Elt.map (by omega) (by omega) fun p hp => ⟨rfl, ?_⟩
    have hp : ps[i]? = some p := hp
    have hm := List.mem_of_getElem? hp
    have ok := h.hps p hm
    have hps := price_small ok h0 h1
    have hbs := ok.base
    have hnext : best calls (ps.take (i + 1)) = step calls (b, n) p := by
      rw [List.take_add_one, hp, hb]
      simp [best, List.foldl_append]
    constructor
    refine ⟨fun h3 => ?_, fun h3 => ?_⟩
    · constructor
      refine ⟨fun h4 => ?_, fun h4 => ?_⟩
      · constructor
        refine ⟨fun h5 => ?_, fun h5 => ?_⟩
        · have hf : ¬ p.fits calls := fun hf => by rcases hf.2 with h | h <;> omega
          constructor
          refine ⟨by unfold inR; simp only; omega, ?_⟩
          refine ⟨(i + 1, (b, n)), ⟨by simp only; omega, ?_⟩, by simp only; omega, rfl, rfl⟩
          show (b, n) = _
          rw [hnext, step, if_neg hf]
        · have hf : p.fits calls := ⟨h3, .inr (by omega)⟩
          constructor
          refine CallV.of (price_pf p ok calls h0 h1) ?_
          constructor
          refine ⟨by unfold inR; omega, ?_⟩
          constructor
          refine ⟨fun h6 => ?_, fun h6 => ?_⟩
          · constructor
            refine ⟨by unfold inR; simp only; omega, ?_⟩
            refine ⟨(i + 1, (p.key, p.cost calls)), ⟨by simp only; omega, ?_⟩, by simp only; omega, rfl, rfl⟩
            show (p.key, p.cost calls) = _
            rw [hnext, step, if_pos hf, if_pos (.inl h6)]
          · constructor
            refine ⟨fun h7 => ?_, fun h7 => ?_⟩
            · constructor
              refine ⟨by unfold inR; simp only; omega, ?_⟩
              refine ⟨(i + 1, (p.key, p.cost calls)), ⟨by simp only; omega, ?_⟩, by simp only; omega, rfl, rfl⟩
              show (p.key, p.cost calls) = _
              rw [hnext, step, if_pos hf, if_pos (.inr h7)]
            · constructor
              refine ⟨by unfold inR; simp only; omega, ?_⟩
              refine ⟨(i + 1, (b, n)), ⟨by simp only; omega, ?_⟩, by simp only; omega, rfl, rfl⟩
              show (b, n) = _
              rw [hnext, step, if_pos hf, if_neg (fun h => h.elim h6 h7)]
      · have hf : p.fits calls := ⟨h3, .inl (by omega)⟩
        constructor
        refine CallV.of (price_pf p ok calls h0 h1) ?_
        constructor
        refine ⟨by unfold inR; omega, ?_⟩
        constructor
        refine ⟨fun h6 => ?_, fun h6 => ?_⟩
        · constructor
          refine ⟨by unfold inR; simp only; omega, ?_⟩
          refine ⟨(i + 1, (p.key, p.cost calls)), ⟨by simp only; omega, ?_⟩, by simp only; omega, rfl, rfl⟩
          show (p.key, p.cost calls) = _
          rw [hnext, step, if_pos hf, if_pos (.inl h6)]
        · constructor
          refine ⟨fun h7 => ?_, fun h7 => ?_⟩
          · constructor
            refine ⟨by unfold inR; simp only; omega, ?_⟩
            refine ⟨(i + 1, (p.key, p.cost calls)), ⟨by simp only; omega, ?_⟩, by simp only; omega, rfl, rfl⟩
            show (p.key, p.cost calls) = _
            rw [hnext, step, if_pos hf, if_pos (.inr h7)]
          · constructor
            refine ⟨by unfold inR; simp only; omega, ?_⟩
            refine ⟨(i + 1, (b, n)), ⟨by simp only; omega, ?_⟩, by simp only; omega, rfl, rfl⟩
            show (b, n) = _
            rw [hnext, step, if_pos hf, if_neg (fun h => h.elim h6 h7)]
    · have hf : ¬ p.fits calls := fun hf => h3 hf.1
      constructor
      refine ⟨by unfold inR; simp only; omega, ?_⟩
      refine ⟨(i + 1, (b, n)), ⟨by simp only; omega, ?_⟩, by simp only; omega, rfl, rfl⟩
      show (b, n) = _
      rw [hnext, step, if_neg hf]
  · have h2 : ¬ (i : Int) < (ps.map Pl.pv).length := h2
    rw [hlen] at h2
    have hb2 : best calls ps = (b, n) := by rw [hb, List.take_of_length_le (by omega)]
    rw [hb2]
    constructor
    refine ⟨fun h3 => ?_, fun h3 => ?_⟩
    · constructor
      rw [if_pos h3]
      exact ⟨rfl⟩
    · constructor
      rw [if_neg h3]
      exact ⟨rfl⟩
end Go.Ag
/- The stream of numbers: what its methods yield, told ahead. -/
namespace Go.Ag
open Go
set_option linter.unusedVariables false
set_option linter.unusedSimpArgs false
set_option maxRecDepth 100000

theorem next_ex (l : List Int) (a n : Int) (hl : l.length ≤ 140737488355328) (h0 : 0 ≤ a) (h1 : a < 1000000000) (hn : 1 ≤ n) (hn2 : n ≤ 1000000000) :
    ∃ v, (0 ≤ v ∧ v < n) ∧ ∀ rest T, SC PG 62 [.ptr 0 0, vi n] (stm l a rest T) fun r S' => r = vi v ∧ S' = stm l (a + 1) rest T := by
  have hlen : ((l.map (PV.int .i64)).length : Int) = l.length := by simp
  by_cases he : ((l.map (PV.int .i64)).length : Int) = 0
  · refine ⟨below ((a + 1) * 7919) n, below_in _ n hn, fun rest T => ?_⟩
    refine walk_62 rfl (by simp) ?_
    constructor
    refine ⟨by unfold inR; omega, ?_⟩
    constructor
    refine Cmp.yes he ?_
    constructor
    refine ⟨by unfold inR; omega, ?_⟩
    constructor
    refine CallV.of (below_pf _ _ (by omega)) ?_
    constructor
    exact ⟨rfl, rfl⟩
  · have hpos : 0 < l.length := by
      rcases Nat.eq_zero_or_pos l.length with h | h
      · exact absurd (by rw [hlen, h]; rfl) he
      · exact h
    have e1 : (a + 1 - 1).tmod (l.map (PV.int .i64)).length = a % l.length := by
      rw [hlen, show a + 1 - 1 = a by omega, Int.tmod_eq_emod_of_nonneg h0]
    have e2 : IntKind.i64.wrap ((a + 1 - 1).tdiv (l.map (PV.int .i64)).length) = a / l.length := by
      rw [hlen, show a + 1 - 1 = a by omega, Int.tdiv_eq_ediv_of_nonneg h0]
      have := Int.ediv_nonneg h0 (show (0 : Int) ≤ l.length by omega)
      have := Int.ediv_le_self (l.length : Int) h0
      exact IntWalk.i64_in _ (by omega)
    have g0 := Int.emod_nonneg a (show (l.length : Int) ≠ 0 by omega)
    have g1 := Int.emod_lt_of_pos a (show (0 : Int) < l.length by omega)
    have g2 := Int.ediv_nonneg h0 (show (0 : Int) ≤ l.length by omega)
    have g3 : a / l.length ≤ a := Int.ediv_le_self _ h0
    have g4 : a / l.length * (a % l.length) ≤ a := by
      have h := Int.mul_le_mul_of_nonneg_left (Int.le_of_lt g1) g2
      have h2 := Int.mul_ediv_add_emod a l.length
      rw [Int.mul_comm] at h2
      omega
    have g5 : 0 ≤ a / l.length * (a % l.length) := Int.mul_nonneg g2 g0
    have g6 : a / l.length * (7919 + a % l.length) = a / l.length * 7919 + a / l.length * (a % l.length) := Int.mul_add _ _ _
    obtain ⟨x, hx⟩ : ∃ x, l[(a % l.length).toNat]? = some x := ⟨_, List.getElem?_eq_getElem (by omega)⟩
    have k1 := below_in x 1073741824 (by omega)
    refine ⟨below (below x 1073741824 + a / l.length * (7919 + a % l.length)) n, below_in _ n hn, fun rest T => ?_⟩
    refine walk_62 rfl (by simp) ?_
    constructor
    refine ⟨by unfold inR; omega, ?_⟩
    constructor
    refine Cmp.no he ?_
    constructor
    refine ⟨by unfold inR; omega, ?_⟩
    constructor
    refine ⟨by rw [hlen]; omega, ?_⟩
    rw [e1]
    constructor
    refine ⟨by unfold inR; omega, ?_⟩
    constructor
    refine ⟨by rw [hlen]; omega, ?_⟩
    rw [e2]
    constructor
    refine Elt.map g0 g1 fun y hy => ⟨rfl, ?_⟩
    obtain rfl : x = y := by rw [hx] at hy; cases hy; rfl
    constructor
    refine CallV.of (below_pf _ _ (by omega)) ?_
    constructor
    refine ⟨by unfold inR; omega, ?_⟩
    constructor
    refine ⟨by unfold inR; omega, ?_⟩
    constructor
    refine ⟨by unfold inR; omega, ?_⟩
    constructor
    refine CallV.of (below_pf _ _ (by omega)) ?_
    constructor
    exact ⟨rfl, rfl⟩
theorem range_ex (l : List Int) (a lo hi : Int) (hl : l.length ≤ 140737488355328) (h0 : 0 ≤ a) (h1 : a < 1000000000) (hlo : -100000000 ≤ lo) (hh : lo ≤ hi) (hhi : hi ≤ 100000000) :
    ∃ v, (lo ≤ v ∧ v ≤ hi) ∧ ∀ rest T, SC PG 13 [.ptr 0 0, vi lo, vi hi] (stm l a rest T) fun r S' => r = vi v ∧ S' = stm l (a + 1) rest T := by
  obtain ⟨v, hv, hc⟩ := next_ex l a (hi - lo + 1) hl h0 h1 (by omega) (by omega)
  refine ⟨lo + v, by omega, fun rest T => ?_⟩
  refine walk_13 rfl (by simp) ?_
  constructor
  refine Cmp.no (by omega) ?_
  constructor
  refine ⟨by unfold inR; omega, ?_⟩
  constructor
  refine ⟨by unfold inR; omega, ?_⟩
  constructor
  refine CallM.of rfl (hc rest T) ?_
  rintro r S' ⟨rfl, rfl⟩
  constructor
  refine ⟨by unfold inR; omega, ?_⟩
  constructor
  exact ⟨rfl, rfl⟩
theorem pick_ex (l : List Int) (a : Int) (xs : List Int) (hl : l.length ≤ 140737488355328) (h0 : 0 ≤ a) (h1 : a < 1000000000) (hx : 1 ≤ xs.length) (hx2 : xs.length ≤ 1000) :
    ∃ v ∈ xs, ∀ rest T, SC PG 51 [.ptr 0 0, .p (ints xs)] (stm l a rest T) fun r S' => r = vi v ∧ S' = stm l (a + 1) rest T := by
  have hlen : ((xs.map (PV.int .i64)).length : Int) = xs.length := by simp
  obtain ⟨v, hv, hc⟩ := next_ex l a ((xs.map (PV.int .i64)).length) hl h0 h1 (by omega) (by omega)
  have hlt : v.toNat < xs.length := by omega
  refine ⟨xs[v.toNat], List.getElem_mem hlt, fun rest T => ?_⟩
  refine walk_51 rfl (by simp) ?_
  constructor
  refine CallM.of rfl (hc rest T) ?_
  rintro r S' ⟨rfl, rfl⟩
  constructor
  refine Elt.map hv.1 (by omega) fun x hx => ⟨rfl, ?_⟩
  rw [List.getElem?_eq_getElem hlt] at hx
  cases hx
  constructor
  exact ⟨rfl, rfl⟩
theorem some_ex (l : List Int) (a : Int) (xs : List (List UInt8)) (hl : l.length ≤ 140737488355328) (h0 : 0 ≤ a) (h1 : a < 1000000000) (hx : 1 ≤ xs.length) (hx2 : xs.length ≤ 1000) :
    ∃ v ∈ xs, ∀ rest T, SC PG 18 [.ptr 0 0, .p (.sl (strs xs))] (stm l a rest T) fun r S' => r = .p (.str v) ∧ S' = stm l (a + 1) rest T := by
  have hlen : ((strs xs).length : Int) = xs.length := by simp
  obtain ⟨v, hv, hc⟩ := next_ex l a ((strs xs).length) hl h0 h1 (by omega) (by omega)
  have hlt : v.toNat < xs.length := by omega
  refine ⟨xs[v.toNat], List.getElem_mem hlt, fun rest T => ?_⟩
  refine walk_18 rfl (by simp) ?_
  constructor
  refine CallM.of rfl (hc rest T) ?_
  rintro r S' ⟨rfl, rfl⟩
  constructor
  refine Elt.map hv.1 (by omega) fun x hx => ⟨rfl, ?_⟩
  rw [List.getElem?_eq_getElem hlt] at hx
  cases hx
  constructor
  exact ⟨rfl, rfl⟩
theorem flip_ex (l : List Int) (a n : Int) (hl : l.length ≤ 140737488355328) (h0 : 0 ≤ a) (h1 : a < 1000000000) (hn : 1 ≤ n) (hn2 : n ≤ 1000) :
    ∃ b, ∀ rest T, SC PG 12 [.ptr 0 0, vi n] (stm l a rest T) fun r S' => r = vb b ∧ S' = stm l (a + 1) rest T := by
  obtain ⟨v, hv, hc⟩ := next_ex l a n hl h0 h1 hn (by omega)
  by_cases h : v = 0
  · refine ⟨true, fun rest T => ?_⟩
    refine walk_12 rfl (by simp) ?_
    constructor
    refine CallM.of rfl (hc rest T) ?_
    rintro r S' ⟨rfl, rfl⟩
    constructor
    refine Cmp.yes h ?_
    constructor
    exact ⟨rfl, rfl⟩
  · refine ⟨false, fun rest T => ?_⟩
    refine walk_12 rfl (by simp) ?_
    constructor
    refine CallM.of rfl (hc rest T) ?_
    rintro r S' ⟨rfl, rfl⟩
    constructor
    refine Cmp.no h ?_
    constructor
    exact ⟨rfl, rfl⟩
end Go.Ag
/- PricesGrow: the catalog that the stream makes. -/
namespace Go.Ag
open Go
set_option linter.unusedVariables false
set_option linter.unusedSimpArgs false
set_option maxRecDepth 100000

theorem Rise.snoc : ∀ {ts : List (Int × Int)} {b : Int} {t : Int × Int}, Rise b ts → (∀ s ∈ ts.getLast?, s.1 < t.1) → b < t.1 → t.1 ≤ 1000 → 0 ≤ t.2 → t.2 ≤ 1500 → Rise b (ts ++ [t])
  | [], b, t, _, _, h1, h2, h3, h4 => ⟨h1, h2, h3, h4, trivial⟩
  | [x], b, t, h, hl, h1, h2, h3, h4 => ⟨h.1, h.2.1, h.2.2.1, h.2.2.2.1, hl x (by simp), h2, h3, h4, trivial⟩
  | x :: y :: r, b, t, h, hl, h1, h2, h3, h4 => ⟨h.1, h.2.1, h.2.2.1, h.2.2.2.1, Rise.snoc h.2.2.2.2 (by simpa using hl) (by
      have : ∀ (r : List (Int × Int)) (b : Int), Rise b r → ∀ s ∈ r.getLast?, b < s.1 := by
        intro r
        induction r with
        | nil => intro b _ s hs; simp at hs
        | cons z q ih =>
          intro b hr s hs
          cases q with
          | nil => simp at hs; subst hs; exact hr.1
          | cons w q => have h5 := ih z.1 hr.2.2.2.2 s (by simpa using hs); have := hr.1; omega
      obtain ⟨s, hs⟩ : ∃ s, (y :: r).getLast? = some s := ⟨_, List.getLast?_eq_some_getLast (by simp)⟩
      have h5 := this (y :: r) x.1 h.2.2.2.2 s hs
      have h6 := hl s (by simpa using hs)
      omega) h2 h3 h4⟩

/-- What is known where the tiers are made. -/
structure Inv0 (n : Int) (T2 : Toks) (a2 : Int) (ts : List (Int × Int)) (q : RV) (T : Toks) (from_ : Int) (a : Int) : Prop where
  len : (ts.length : Int) ≤ n
  rise : Rise 0 ts
  first : ∀ t ∈ ts.head?, t.1 = 1
  row : Row T2 2 182 (ts.map tpv) T q
  ext : Ext T2 T
  last : ∀ t ∈ ts.getLast?, t.1 < from_
  one : ts = [] → from_ = 1
  lo : 1 ≤ from_
  hi : from_ ≤ 1 + 100 * ts.length
  a0 : a2 ≤ a
  a1 : a ≤ a2 + 2 * ts.length
def loc0 (X : PV) (q : RV) (cs : List RV) : List (Nat × List RV) := [(2, [.nsl true, .nsl true]), (3, [.p X, q]), (6, cs)]
def env0 (from_ i n : Int) (k : Nat) : Env := [(0, .ptr 0 0), (2, .la 2 0), (3, .la 3 0), (6, .la 6 0), (7, vi from_), (15, .p (.sl (strs four))), (16, vi 4), (17, vi i), (44, vi n), (45, vi k)]
theorem l0_walk (l : List Int) (hl : l.length ≤ 140737488355328) (X : PV) (q : RV) (key prod : List UInt8) (base free lmt tri : Int) (asked : RV) (i n : Int) (hn : 0 ≤ n ∧ n ≤ 3) (T2 : Toks) (a2 : Int) (h0 : 0 ≤ a2) (h1 : a2 < 900000000) {Q : Ex → Env → Mem → Prop}
    (hQ : ∀ ts tq T from_ a, Inv0 n T2 a2 ts tq T from_ a → ¬ (ts.length : Int) < n → Q (.exit 2) (env0 from_ i n ts.length ++ [(46, vb false)]) ⟨loc0 X q [.p (.str key), .p (.str prod), vi base, vi free, tq, vi lmt, vi tri, asked], (stm l a [] []).mem, T⟩) :
    LoopF PG (irF PG ir_48_l0) (some [0, 2, 3, 6, 7, 15, 16, 17, 44, 45]) Q (env0 1 i n 0) ⟨loc0 X q [.p (.str key), .p (.str prod), vi base, vi free, .nsl true, vi lmt, vi tri, asked], (stm l a2 [] []).mem, T2⟩ := by
  refine LoopF.of (fun s : List (Int × Int) × RV × Toks × Int × Int => (env0 s.2.2.2.1 i n s.1.length, ⟨loc0 X q [.p (.str key), .p (.str prod), vi base, vi free, s.2.1, vi lmt, vi tri, asked], (stm l s.2.2.2.2 [] []).mem, s.2.2.1⟩)) (fun s => 3 - s.1.length) (fun s => Inv0 n T2 a2 s.1 s.2.1 s.2.2.1 s.2.2.2.1 s.2.2.2.2) ([], .nsl true, T2, 1, a2) ⟨by simp; omega, trivial, by simp, Row.nil, Ext.refl _, by simp, by simp, by simp, by simp, by simp, by simp⟩ rfl rfl ?_
  rintro ⟨ts, tq, T, fr, a⟩ hinv
  simp only at hinv
  constructor
  refine ⟨fun h2 => ?_, fun h2 => ?_⟩
  · have h2 : (ts.length : Int) < n := h2
    have hrow := hinv.row
    have := hinv.a0
    have := hinv.a1
    have := hinv.lo
    have := hinv.hi
    obtain ⟨v, hv, c1⟩ := pick_ex l a [0, 100, 500, 1500] hl (by omega) (by omega) (by simp) (by simp)
    obtain ⟨u, hu, c2⟩ := pick_ex l (a + 1) [1, 9, 100] hl (by omega) (by omega) (by simp) (by simp)
    have hv2 : 0 ≤ v ∧ v ≤ 1500 := by simp at hv; omega
    have hu2 : 1 ≤ u ∧ u ≤ 100 := by simp at hu; omega
    obtain ⟨t', T', k1, k2, k3⟩ := hrow.app (y := tpv (fr, v)) (b := 16) hinv.ext rfl (by simp [lim]; omega)
    rcases hrow with ⟨rfl, he⟩ | ⟨t, rfl, _⟩
    all_goals
      constructor
      refine CallD.of rfl (c1 [] T) ?_
      constructor
      refine ⟨rfl, ?_⟩
      constructor
      refine Opr.of (k1 _ rfl) ?_
      constructor
      refine CallM.of rfl (c2 [] T') ?_
      rintro r S' ⟨rfl, rfl⟩
      constructor
      refine ⟨by unfold inR; simp only; omega, ?_⟩
      constructor
      refine ⟨by unfold inR; simp only; omega, ?_⟩
      refine ⟨(ts ++ [(fr, v)], .own (ts.map tpv ++ [tpv (fr, v)]) t', T', fr + u, a + 1 + 1), ?_, ?_, ?_, rfl⟩
      · refine ⟨by simp only [List.length_append, List.length_cons, List.length_nil]; omega, hinv.rise.snoc hinv.last (by simp only; omega) (by simp only; omega) (by simp only; omega) (by simp only; omega), ?_, by simpa using k2, k3, ?_, by simp, by simp only; omega, by simp only [List.length_append, List.length_cons, List.length_nil]; omega, by simp only; omega, by simp only [List.length_append, List.length_cons, List.length_nil]; omega⟩
        · cases ts with
          | nil => intro t ht; simp at ht; subst ht; exact hinv.one rfl
          | cons x r => intro t ht; simp at ht; subst ht; exact hinv.first _ (by simp)
        · intro t ht; simp at ht; subst ht; simp only; omega
      · simp only [List.length_append, List.length_cons, List.length_nil]; omega
      · simp [env0]; rfl
  · have h2 : ¬ (ts.length : Int) < n := h2
    exact hQ ts tq T fr a hinv h2

/-- What is known where the plans are made. -/
structure Inv1 (T1 : Toks) (a1 : Int) (i : Nat) (ps : List Pl) (q : RV) (T : Toks) (a : Int) : Prop where
  len : i ≤ 4
  ok : ∀ p ∈ ps, p.ok
  keys : (ps.map Pl.key).Sublist (four.take i)
  row : Row T1 8 109 (ps.map Pl.pv) T q
  ext : Ext T1 T
  a0 : a1 ≤ a
  a1 : a ≤ a1 + 100 * i
def env1 (i : Nat) : Env := [(0, .ptr 0 0), (2, .la 2 0), (3, .la 3 0), (15, .p (.sl (strs four))), (16, vi 4), (17, vi i)]
def loc1 (X : PV) (q : RV) : List (Nat × List RV) := [(2, [.nsl true, .nsl true]), (3, [.p X, q])]
theorem l1_walk (l : List Int) (hl : l.length ≤ 140737488355328) (X : PV) (T1 : Toks) (a1 : Int) (h0 : 0 ≤ a1) (h1 : a1 < 800000000) {Q : Ex → Env → Mem → Prop}
    (hQ : ∀ ps q T a, Inv1 T1 a1 4 ps q T a → Q (.exit 0) (env1 4 ++ [(18, vb false)]) ⟨loc1 X q, (stm l a [] []).mem, T⟩) :
    LoopF PG (irF PG ir_48_l1) (some [0, 2, 3, 15, 16, 17]) Q (env1 0) ⟨loc1 X (.nsl true), (stm l a1 [] []).mem, T1⟩ := by
  refine LoopF.of (fun s : Nat × List Pl × RV × Toks × Int => (env1 s.1, ⟨loc1 X s.2.2.1, (stm l s.2.2.2.2 [] []).mem, s.2.2.2.1⟩)) (fun s => 4 - s.1) (fun s => Inv1 T1 a1 s.1 s.2.1 s.2.2.1 s.2.2.2.1 s.2.2.2.2) (0, [], .nsl true, T1, a1) ⟨by simp, by simp, by simp, Row.nil, Ext.refl _, by simp, by simp⟩ rfl rfl ?_
  rintro ⟨i, ps, q, T, a⟩ hinv
  simp only at hinv
  have hi := hinv.len
  have := hinv.a0
  have := hinv.a1
  constructor
  refine ⟨fun h2 => ?_, fun h2 => ?_⟩
  · have h2 : (i : Int) < 4 := h2
    constructor
    refine Elt.map (f := PV.str) (l := four) (by simp only; omega) (by simp [four]; omega) fun key hkey => ⟨rfl, ?_⟩
    have hkey : four[i]? = some key := hkey
    obtain ⟨b, hb⟩ := flip_ex l a 5 hl (by omega) (by omega) (by omega) (by omega)
    constructor
    refine CallM.of rfl (hb [] T) ?_
    rintro r S' ⟨rfl, rfl⟩
    have htake : four.take (i + 1) = four.take i ++ [key] := by rw [List.take_add_one, hkey]; rfl
    cases b
    · obtain ⟨v1, hv1, c1⟩ := some_ex l (a + 1) [kShop, kShop, kMaps] hl (by omega) (by omega) (by simp) (by simp)
      obtain ⟨v2, hv2, c2⟩ := pick_ex l (a + 1 + 1) [0, 0, 1000, 3000, 31] hl (by omega) (by omega) (by simp) (by simp)
      obtain ⟨v3, hv3, c3⟩ := pick_ex l (a + 1 + 1 + 1) [0, 10, 100] hl (by omega) (by omega) (by simp) (by simp)
      obtain ⟨v4, hv4, c4⟩ := pick_ex l (a + 1 + 1 + 1 + 1) [-1, -1, 0, 1000] hl (by omega) (by omega) (by simp) (by simp)
      obtain ⟨v5, hv5, c5⟩ := pick_ex l (a + 1 + 1 + 1 + 1 + 1) [0, 0, 1, 2] hl (by omega) (by omega) (by simp) (by simp)
      obtain ⟨v6, c6⟩ := flip_ex l (a + 1 + 1 + 1 + 1 + 1 + 1) 2 hl (by omega) (by omega) (by omega) (by omega)
      obtain ⟨n, hn, c7⟩ := pick_ex l (a + 1 + 1 + 1 + 1 + 1 + 1 + 1) [0, 1, 2, 3] hl (by omega) (by omega) (by simp) (by simp)
      have hn3 : 0 ≤ n ∧ n ≤ 3 := by simp at hn; omega
      constructor
      refine CallM.of rfl (c1 [] T) ?_
      rintro r S' ⟨rfl, rfl⟩
      constructor
      refine CallM.of rfl (c2 [] T) ?_
      rintro r S' ⟨rfl, rfl⟩
      constructor
      refine CallM.of rfl (c3 [] T) ?_
      rintro r S' ⟨rfl, rfl⟩
      constructor
      refine CallM.of rfl (c4 [] T) ?_
      rintro r S' ⟨rfl, rfl⟩
      constructor
      refine CallM.of rfl (c5 [] T) ?_
      rintro r S' ⟨rfl, rfl⟩
      constructor
      refine CallM.of rfl (c6 [] T) ?_
      rintro r S' ⟨rfl, rfl⟩
      cases v6
      · constructor
        refine CallM.of rfl (c7 [] T) ?_
        rintro r S' ⟨rfl, rfl⟩
        constructor
        refine l0_walk l hl X q key v1 v2 v3 v4 v5 (vb false) i n hn3 T (a + 1 + 1 + 1 + 1 + 1 + 1 + 1 + 1) (by omega) (by omega) fun ts tq T' fr a' hin hlt => ?_
        have hi0 := hin.len
        have ha0 := hin.a0
        have ha1 := hin.a1
        have hlen := hinv.keys.length_le
        have hlen4 : ps.length ≤ 4 := by simp [four] at hlen; omega
        have hok : ∀ b, (Pl.mk key v1 v2 v3 ts v4 v5 b).ok := fun b => ⟨by simp at hv1; exact hv1, by simp at hv2; simp only; omega, by simp at hv3; simp only; omega, by simp at hv4; simp only; omega, by simp at hv5; simp only; omega, by simp only; omega, hin.rise, hin.first⟩
        have hrow := hinv.row.ext hin.ext
        have happ := fun b => hrow.app (y := (Pl.mk key v1 v2 v3 ts v4 v5 b).pv) (b := 96) (hinv.ext.trans hin.ext) rfl (by simp [lim]; omega)
        have hkeys : (ps.map Pl.key ++ [key]).Sublist (four.take (i + 1)) := by
          rw [htake]
          exact hinv.keys.append (List.Sublist.refl _)
        have hrow0 := hin.row
        rcases hrow0 with ⟨rfl, he⟩ | ⟨t, rfl, _⟩
        · obtain rfl : ts = [] := List.map_eq_nil_iff.1 he
          obtain ⟨t', T'', k1, k2, k3⟩ := happ false
          rcases hrow with ⟨rfl, he2⟩ | ⟨t2, rfl, _⟩
          all_goals
            constructor
            refine Opr.of (k1 _ rfl) ?_
            constructor
            refine ⟨by unfold inR; omega, ?_⟩
            refine ⟨(i + 1, ps ++ [⟨key, v1, v2, v3, [], v4, v5, false⟩], .own (ps.map Pl.pv ++ [(Pl.mk key v1 v2 v3 [] v4 v5 false).pv]) t', T'', a'), ⟨by simp only; omega, ?_, by simpa using hkeys, by simpa using k2, k3, by simp only; omega, by simp only; omega⟩, by simp only; omega, rfl, rfl⟩
            intro p hp
            rcases List.mem_append.1 hp with hp | hp
            · exact hinv.ok p hp
            · rw [List.mem_singleton.1 hp]; exact hok false
        · obtain ⟨t', T'', k1, k2, k3⟩ := happ false
          rcases hrow with ⟨rfl, he2⟩ | ⟨t2, rfl, _⟩
          all_goals
            constructor
            refine Opr.of (k1 _ rfl) ?_
            constructor
            refine ⟨by unfold inR; omega, ?_⟩
            refine ⟨(i + 1, ps ++ [⟨key, v1, v2, v3, ts, v4, v5, false⟩], .own (ps.map Pl.pv ++ [(Pl.mk key v1 v2 v3 ts v4 v5 false).pv]) t', T'', a'), ⟨by simp only; omega, ?_, by simpa using hkeys, by simpa using k2, k3, by simp only; omega, by simp only; omega⟩, by simp only; omega, rfl, rfl⟩
            intro p hp
            rcases List.mem_append.1 hp with hp | hp
            · exact hinv.ok p hp
            · rw [List.mem_singleton.1 hp]; exact hok false
      · constructor
        refine CallM.of rfl (c7 [] T) ?_
        rintro r S' ⟨rfl, rfl⟩
        constructor
        refine l0_walk l hl X q key v1 v2 v3 v4 v5 (vb true) i n hn3 T (a + 1 + 1 + 1 + 1 + 1 + 1 + 1 + 1) (by omega) (by omega) fun ts tq T' fr a' hin hlt => ?_
        have hi0 := hin.len
        have ha0 := hin.a0
        have ha1 := hin.a1
        have hlen := hinv.keys.length_le
        have hlen4 : ps.length ≤ 4 := by simp [four] at hlen; omega
        have hok : ∀ b, (Pl.mk key v1 v2 v3 ts v4 v5 b).ok := fun b => ⟨by simp at hv1; exact hv1, by simp at hv2; simp only; omega, by simp at hv3; simp only; omega, by simp at hv4; simp only; omega, by simp at hv5; simp only; omega, by simp only; omega, hin.rise, hin.first⟩
        have hrow := hinv.row.ext hin.ext
        have happ := fun b => hrow.app (y := (Pl.mk key v1 v2 v3 ts v4 v5 b).pv) (b := 96) (hinv.ext.trans hin.ext) rfl (by simp [lim]; omega)
        have hkeys : (ps.map Pl.key ++ [key]).Sublist (four.take (i + 1)) := by
          rw [htake]
          exact hinv.keys.append (List.Sublist.refl _)
        have hrow0 := hin.row
        rcases hrow0 with ⟨rfl, he⟩ | ⟨t, rfl, _⟩
        · obtain rfl : ts = [] := List.map_eq_nil_iff.1 he
          obtain ⟨t', T'', k1, k2, k3⟩ := happ true
          rcases hrow with ⟨rfl, he2⟩ | ⟨t2, rfl, _⟩
          all_goals
            constructor
            refine Opr.of (k1 _ rfl) ?_
            constructor
            refine ⟨by unfold inR; omega, ?_⟩
            refine ⟨(i + 1, ps ++ [⟨key, v1, v2, v3, [], v4, v5, true⟩], .own (ps.map Pl.pv ++ [(Pl.mk key v1 v2 v3 [] v4 v5 true).pv]) t', T'', a'), ⟨by simp only; omega, ?_, by simpa using hkeys, by simpa using k2, k3, by simp only; omega, by simp only; omega⟩, by simp only; omega, rfl, rfl⟩
            intro p hp
            rcases List.mem_append.1 hp with hp | hp
            · exact hinv.ok p hp
            · rw [List.mem_singleton.1 hp]; exact hok true
        · obtain ⟨t', T'', k1, k2, k3⟩ := happ true
          rcases hrow with ⟨rfl, he2⟩ | ⟨t2, rfl, _⟩
          all_goals
            constructor
            refine Opr.of (k1 _ rfl) ?_
            constructor
            refine ⟨by unfold inR; omega, ?_⟩
            refine ⟨(i + 1, ps ++ [⟨key, v1, v2, v3, ts, v4, v5, true⟩], .own (ps.map Pl.pv ++ [(Pl.mk key v1 v2 v3 ts v4 v5 true).pv]) t', T'', a'), ⟨by simp only; omega, ?_, by simpa using hkeys, by simpa using k2, k3, by simp only; omega, by simp only; omega⟩, by simp only; omega, rfl, rfl⟩
            intro p hp
            rcases List.mem_append.1 hp with hp | hp
            · exact hinv.ok p hp
            · rw [List.mem_singleton.1 hp]; exact hok true
    · constructor
      refine ⟨by unfold inR; simp only; omega, ?_⟩
      refine ⟨(i + 1, ps, q, T, a + 1), ⟨by simp only; omega, hinv.ok, ?_, hinv.row, hinv.ext, by simp only; omega, by simp only; omega⟩, by simp only; omega, rfl, rfl⟩
      show (ps.map Pl.key).Sublist (four.take (i + 1))
      rw [htake]
      exact hinv.keys.trans (List.sublist_append_left _ _)
  · have h2 : ¬ (i : Int) < 4 := h2
    obtain rfl : i = 4 := by omega
    exact hQ ps q T a hinv

theorem cat_sc (l : List Int) (a : Int) (hl : l.length ≤ 140737488355328) (h0 : 0 ≤ a) (h1 : a < 700000000) :
    SC PG 48 [.ptr 0 0] (stm l a [] []) fun r S' => ∃ sc ps a' T' q, CatOk sc ps ∧ Row [] 8 109 (ps.map Pl.pv) T' q ∧ (a ≤ a' ∧ a' ≤ a + 500) ∧ r = .agg [.p (prods sc), q] ∧ S' = stm l a' [] T' := by
  refine walk_48 rfl (by simp) ?_
  constructor
  refine CallM.of rfl (rsc_sc l a [] [] hl h0 (by omega)) ?_
  rintro r S' ⟨sc, a1, T1, hsc, ha1, hext, hrow, rfl⟩
  rcases hrow with ⟨rfl, he⟩ | ⟨t, rfl, _⟩
  · obtain rfl : sc = [] := List.map_eq_nil_iff.1 he
    constructor
    refine l1_walk l hl (prods []) T1 a1 (by omega) (by omega) fun ps q T a2 hin => ?_
    have hrow2 := hin.row
    have := hin.a0
    have := hin.a1
    rcases hrow2 with ⟨rfl, he2⟩ | ⟨t2, rfl, _⟩
    all_goals
      constructor
      exact ⟨[], ps, a2, T, _, ⟨hsc, hin.ok, hin.keys⟩, hin.row.back hext, ⟨by omega, by omega⟩, rfl, rfl⟩
  · constructor
    refine l1_walk l hl (prods sc) T1 a1 (by omega) (by omega) fun ps q T a2 hin => ?_
    have hrow2 := hin.row
    have := hin.a0
    have := hin.a1
    rcases hrow2 with ⟨rfl, he2⟩ | ⟨t2, rfl, _⟩
    all_goals
      constructor
      exact ⟨sc, ps, a2, T, _, ⟨hsc, hin.ok, hin.keys⟩, hin.row.back hext, ⟨by omega, by omega⟩, rfl, rfl⟩
end Go.Ag
/- PricesGrow: what the cheapest plan is, in plain words. -/
namespace Go.Ag
open Go
set_option linter.unusedVariables false
set_option linter.unusedSimpArgs false

/-- What is known of the best of some plans. -/
structure Best (calls : Int) (st : List UInt8 × Int) (ps : List Pl) : Prop where
  none : st.1 = [] → ∀ p ∈ ps, ¬ p.fits calls
  some : st.1 ≠ [] → ∃ p ∈ ps, p.fits calls ∧ p.key = st.1 ∧ st.2 = p.cost calls
  least : st.1 ≠ [] → ∀ p ∈ ps, p.fits calls → st.2 ≤ p.cost calls
theorem Best.step {calls : Int} {st : List UInt8 × Int} {ps : List Pl} {p : Pl} (h : Best calls st ps) (hk : p.key ≠ []) : Best calls (Ag.step calls st p) (ps ++ [p]) := by
  unfold Ag.step
  by_cases hf : p.fits calls
  · rw [if_pos hf]
    by_cases hc : st.1 = [] ∨ p.cost calls < st.2
    · rw [if_pos hc]
      refine ⟨fun h => absurd h hk, fun _ => ⟨p, by simp, hf, rfl, rfl⟩, fun _ q hq hqf => ?_⟩
      rcases List.mem_append.1 hq with hq | hq
      · show p.cost calls ≤ q.cost calls
        rcases hc with hc | hc
        · exact absurd hqf (h.none hc q hq)
        · by_cases hs : st.1 = []
          · exact absurd hqf (h.none hs q hq)
          · have := h.least hs q hq hqf
            omega
      · rw [List.mem_singleton.1 hq]
        exact Int.le_refl _
    · rw [if_neg hc]
      have h1 : st.1 ≠ [] := fun h => hc (.inl h)
      have h2 : ¬ p.cost calls < st.2 := fun h => hc (.inr h)
      refine ⟨fun h => absurd h h1, fun _ => ?_, fun _ q hq hqf => ?_⟩
      · obtain ⟨q, hq, h3⟩ := h.some h1
        exact ⟨q, by simp [hq], h3⟩
      · rcases List.mem_append.1 hq with hq | hq
        · exact h.least h1 q hq hqf
        · rw [List.mem_singleton.1 hq]
          omega
  · rw [if_neg hf]
    refine ⟨fun h1 q hq => ?_, fun h1 => ?_, fun h1 q hq hqf => ?_⟩
    · rcases List.mem_append.1 hq with hq | hq
      · exact h.none h1 q hq
      · rw [List.mem_singleton.1 hq]
        exact hf
    · obtain ⟨q, hq, h3⟩ := h.some h1
      exact ⟨q, by simp [hq], h3⟩
    · rcases List.mem_append.1 hq with hq | hq
      · exact h.least h1 q hq hqf
      · rw [List.mem_singleton.1 hq] at hqf
        exact absurd hqf hf
theorem best_aux (calls : Int) : ∀ (ps done : List Pl) (st : List UInt8 × Int), Best calls st done → (∀ p ∈ ps, p.key ≠ []) → Best calls (ps.foldl (Ag.step calls) st) (done ++ ps)
  | [], done, st, h, _ => by simpa using h
  | p :: ps, done, st, h, hk => by
    have := best_aux calls ps (done ++ [p]) (Ag.step calls st p) (h.step (hk p (by simp))) (fun q hq => hk q (by simp [hq]))
    simpa using this
theorem four_ne {s : List UInt8} (h : s ∈ four) : s ≠ [] := by
  rintro rfl
  simp [four] at h
theorem best_spec (calls : Int) {sc : List (List UInt8)} {ps : List Pl} (h : CatOk sc ps) : Best calls (best calls ps) ps := by
  have := best_aux calls ps [] ([], 0) ⟨by simp, by simp, by simp⟩ (fun p hp => four_ne (h.key hp))
  simpa [best] using this
theorem CatOk.uniq {sc : List (List UInt8)} {ps : List Pl} (h : CatOk sc ps) {p q : Pl} (hp : p ∈ ps) (hq : q ∈ ps) (he : p.key = q.key) : p = q := by
  have hn : (ps.map Pl.key).Nodup := h.hkeys.nodup (by decide)
  rw [List.Nodup, List.pairwise_map] at hn
  obtain ⟨i, hi, rfl⟩ := List.getElem_of_mem hp
  obtain ⟨j, hj, rfl⟩ := List.getElem_of_mem hq
  rw [List.pairwise_iff_getElem] at hn
  rcases Nat.lt_trichotomy i j with hlt | rfl | hlt
  · exact absurd he (hn i j hi hj hlt)
  · rfl
  · exact absurd he.symm (hn j i hj hi hlt)
/-- What a plan that suits costs, against the best. -/
theorem best_le {calls : Int} {sc : List (List UInt8)} {ps : List Pl} (h : CatOk sc ps) {p : Pl} (hp : p ∈ ps) (hf : p.fits calls) : (best calls ps).1 ≠ [] ∧ (best calls ps).2 ≤ p.cost calls := by
  have hb := best_spec calls h
  have h1 : (best calls ps).1 ≠ [] := fun h1 => hb.none h1 p hp hf
  exact ⟨h1, hb.least h1 p hp hf⟩
/-- .. and what the best costs. -/
theorem best_eq {calls : Int} {sc : List (List UInt8)} {ps : List Pl} (h : CatOk sc ps) {p : Pl} (hp : p ∈ ps) (hk : p.key = (best calls ps).1) : p.fits calls ∧ (best calls ps).2 = p.cost calls := by
  have hb := best_spec calls h
  have h1 : (best calls ps).1 ≠ [] := by rw [← hk]; exact four_ne (h.key hp)
  obtain ⟨q, hq, h2, h3, h4⟩ := hb.some h1
  have := h.uniq hp hq (by rw [hk, h3])
  subst this
  exact ⟨h2, h4⟩
/-- What Cheapest says. -/
theorem cheap_ex (sc : List (List UInt8)) (ps : List Pl) (h : CatOk sc ps) (calls : Int) (h0 : 0 ≤ calls) (h1 : calls ≤ 1000) :
    ∃ k n e, PFun PG 49 [cat sc ps, .str kShop, .int .i64 calls] (.tup [.str k, .int .i64 n, .int .i64 e]) ∧ (∀ p ∈ ps, p.fits calls → e = 0 ∧ n ≤ p.cost calls) ∧ (∀ p ∈ ps, p.key = k → p.fits calls ∧ n = p.cost calls) ∧ (e = 0 ↔ k ≠ []) := by
  have hc := cheap_pf sc ps h calls h0 h1
  by_cases hb : (best calls ps).1 = []
  · rw [if_pos hb] at hc
    refine ⟨_, _, _, hc, fun p hp hf => absurd hb (best_le h hp hf).1, fun p hp hk => absurd hk (four_ne (h.key hp)), ?_⟩
    simp
  · rw [if_neg hb] at hc
    refine ⟨_, _, _, hc, fun p hp hf => ⟨rfl, (best_le h hp hf).2⟩, fun p hp hk => best_eq h hp hk, ?_⟩
    simp [hb]
end Go.Ag
namespace Go.Ag
open Go
set_option maxRecDepth 100000
theorem ready_ev : evFn tab.find (fun _ _ _ => none) 200 20 16 [] mem0 = some (.p (.bool true), mem0) := by kernel_rfl
theorem ready_pf : PFun Go.Proofs.Tryz.prog 16 [] (.bool true) := by
  refine (evFn_sound (by kernel_rfl) (BT.ok tab tab_ok) callOk_none 200 20 16 [] mem0 _ _ rfl ready_ev).mono ?_
  rintro r' S'' ⟨rfl, rfl⟩
  rfl
#print axioms ready_pf
end Go.Ag
/- PricesGrow: the law's function returns true. -/
namespace Go.Ag
open Go
set_option linter.unusedVariables false
set_option linter.unusedSimpArgs false
set_option maxRecDepth 100000

set_option maxHeartbeats 2000000 in
theorem law9 (l : List Int) (hl : l.length ≤ 140737488355328) : PFun PG 9 [ints l] (.bool true) := by
  refine walk_9 rfl (by simp) ?_
  constructor
  refine CallM.of rfl (cat_sc l 0 hl (by omega) (by omega)) ?_
  rintro r S' ⟨sc, ps, a, T, q, hok, hrow, ha, rfl, rfl⟩
  have hl4 := hok.len
  have hlen : ((ps.map Pl.pv).length : Int) = ps.length := by simp
  rcases hrow with ⟨rfl, he⟩ | ⟨t, rfl, _⟩
  · obtain rfl : ps = [] := List.map_eq_nil_iff.1 he
    constructor
    refine CallM.of rfl (range_sc l a 0 500 [] T hl ha.1 (by omega) (by omega) (by omega) (by omega)) ?_
    rintro r S' ⟨calls, hcalls, rfl, rfl⟩
    obtain ⟨k, n, e, hch, _, _, F3⟩ := cheap_ex sc [] hok calls (by omega) (by omega)
    constructor
    refine CallV.of hch ?_
    constructor
    refine LoopF.of (fun i : Nat => ([(3, .ptr 0 0), (4, .la 4 0), (5, vi calls), (6, .p (.str k)), (7, vi n), (8, vi e), (31, .nsl true), (32, vi 0), (33, vi 0)], ⟨[(4, [.p (prods sc), .nsl true])], (stm l (a + 1) [] []).mem, T⟩)) (fun i => 0) (fun i => True) 0 trivial rfl rfl ?_
    intro i _
    constructor
    refine Cmp.no (by omega) ?_
    constructor
    refine ⟨fun h4 => ?_, fun h4 => ?_⟩
    · constructor
      refine Cmp.no (F3.1 h4) ?_
      constructor
      refine CallV.of ready_pf ?_
      constructor
      exact ⟨rfl⟩
    · constructor
      refine Cmp.yes (Classical.not_not.1 fun h5 => h4 (F3.2 h5)) ?_
      constructor
      refine CallV.of ready_pf ?_
      constructor
      exact ⟨rfl⟩
  · constructor
    refine CallM.of rfl (range_sc l a 0 500 [] T hl ha.1 (by omega) (by omega) (by omega) (by omega)) ?_
    rintro r S' ⟨calls, hcalls, rfl, rfl⟩
    obtain ⟨k, n, e, hch, F1, F2, F3⟩ := cheap_ex sc ps hok calls (by omega) (by omega)
    constructor
    refine CallV.of hch ?_
    constructor
    refine LoopF.of (fun i : Nat => ([(3, .ptr 0 0), (4, .la 4 0), (5, vi calls), (6, .p (.str k)), (7, vi n), (8, vi e), (31, .own (ps.map Pl.pv) t), (32, vi (ps.map Pl.pv).length), (33, vi i)], ⟨[(4, [.p (prods sc), .own (ps.map Pl.pv) t])], (stm l (a + 1 + i) [] []).mem, T⟩)) (fun i => ps.length - i) (fun i => i ≤ ps.length) 0 (by omega) rfl (by simp; rfl) ?_
    intro i hi
    constructor
    refine ⟨fun h2 => ?_, fun h2 => ?_⟩
    · rw [hlen] at h2
      constructor
      refine Elt.map (by omega) (by omega) fun p hp => ⟨rfl, ?_⟩
      have hm := List.mem_of_getElem? hp
      have ok := hok.hps p hm
      have hbase := ok.base
      have hsm := price_small ok (calls := calls) (by omega) (by omega)
      constructor
      refine CallV.of (pr_pf sc ps hok p hm calls (by omega) (by omega)) ?_
      obtain ⟨d, hd, c1⟩ := range_ex l (a + 1 + i) 0 200 hl (by omega) (by omega) (by omega) (by omega) (by omega)
      have hmono := Pl.price_mono ok (c := calls) (c' := calls + d) (by omega)
      constructor
      refine CallD.of rfl (c1 [] T) ?_
      constructor
      refine ⟨rfl, ?_⟩
      constructor
      refine ⟨rfl, ?_⟩
      constructor
      refine ⟨by unfold inR; omega, ?_⟩
      constructor
      refine CallV.of (pr_pf sc ps hok p hm (calls + d) (by omega) (by omega)) ?_
      constructor
      refine Cmp.yes rfl ?_
      constructor
      refine Cmp.yes rfl ?_
      constructor
      refine Cmp.no (by omega) ?_
      constructor
      refine ⟨fun h3 => ?_, fun h3 => ?_⟩
      · constructor
        refine ⟨fun h4 => ?_, fun h4 => ?_⟩
        · have hf : p.fits calls := ⟨h3, .inl h4⟩
          obtain ⟨rfl, hn⟩ := F1 p hm hf
          have hn : n ≤ p.base + p.price calls := hn
          constructor
          refine Cmp.yes rfl ?_
          constructor
          refine ⟨by unfold inR; omega, ?_⟩
          constructor
          refine Cmp.no (by omega) ?_
          constructor
          refine ⟨fun h6 => ?_, fun h6 => ?_⟩
          · have hn2 : n = p.base + p.price calls := (F2 p hm h6).2
            constructor
            refine ⟨by unfold inR; omega, ?_⟩
            constructor
            refine Cmp.yes hn2 ?_
            constructor
            refine ⟨by unfold inR; omega, ?_⟩
            exact ⟨i + 1, by omega, by omega, rfl, by rw [show a + 1 + ((i + 1 : Nat) : Int) = a + 1 + i + 1 by omega]; rfl⟩
          · constructor
            refine ⟨by unfold inR; omega, ?_⟩
            exact ⟨i + 1, by omega, by omega, rfl, by rw [show a + 1 + ((i + 1 : Nat) : Int) = a + 1 + i + 1 by omega]; rfl⟩
        · constructor
          refine ⟨fun h5 => ?_, fun h5 => ?_⟩
          · have hf : p.fits calls := ⟨h3, .inr h5⟩
            obtain ⟨rfl, hn⟩ := F1 p hm hf
            have hn : n ≤ p.base + p.price calls := hn
            constructor
            refine Cmp.yes rfl ?_
            constructor
            refine ⟨by unfold inR; omega, ?_⟩
            constructor
            refine Cmp.no (by omega) ?_
            constructor
            refine ⟨fun h6 => ?_, fun h6 => ?_⟩
            · have hn2 : n = p.base + p.price calls := (F2 p hm h6).2
              constructor
              refine ⟨by unfold inR; omega, ?_⟩
              constructor
              refine Cmp.yes hn2 ?_
              constructor
              refine ⟨by unfold inR; omega, ?_⟩
              exact ⟨i + 1, by omega, by omega, rfl, by rw [show a + 1 + ((i + 1 : Nat) : Int) = a + 1 + i + 1 by omega]; rfl⟩
            · constructor
              refine ⟨by unfold inR; omega, ?_⟩
              exact ⟨i + 1, by omega, by omega, rfl, by rw [show a + 1 + ((i + 1 : Nat) : Int) = a + 1 + i + 1 by omega]; rfl⟩
          · have hf : ¬ p.fits calls := fun hf => hf.2.elim h4 h5
            constructor
            refine Cmp.no (fun h6 => hf (F2 p hm h6).1) ?_
            constructor
            refine ⟨by unfold inR; omega, ?_⟩
            exact ⟨i + 1, by omega, by omega, rfl, by rw [show a + 1 + ((i + 1 : Nat) : Int) = a + 1 + i + 1 by omega]; rfl⟩
      · have hf : ¬ p.fits calls := fun hf => h3 hf.1
        constructor
        refine Cmp.no (fun h6 => hf (F2 p hm h6).1) ?_
        constructor
        refine ⟨by unfold inR; omega, ?_⟩
        exact ⟨i + 1, by omega, by omega, rfl, by rw [show a + 1 + ((i + 1 : Nat) : Int) = a + 1 + i + 1 by omega]; rfl⟩
    · rw [hlen] at h2
      constructor
      refine ⟨fun h4 => ?_, fun h4 => ?_⟩
      · constructor
        refine Cmp.no (F3.1 h4) ?_
        constructor
        refine CallV.of ready_pf ?_
        constructor
        exact ⟨rfl⟩
      · constructor
        refine Cmp.yes (Classical.not_not.1 fun h5 => h4 (F3.2 h5)) ?_
        constructor
        refine CallV.of ready_pf ?_
        constructor
        exact ⟨rfl⟩
end Go.Ag
/- An abstract machine for Go functions: a law over a list of whole numbers, called in any memory. -/
namespace Go.Ag
open Go Go.ChangeShapes Go.WideShapes Go.RowKit
set_option linter.unusedVariables false
set_option linter.unusedSimpArgs false

/-- A row of whole numbers, as a card reads it. -/
def IsRow (k : IntKind) (w : World) (a : Option Addr) (len cap : Nat) (zs : List Int) : Prop :=
  (a = none ∧ len = 0 ∧ cap = 0 ∧ zs = []) ∨
  ∃ x, a = some x ∧ len ≤ cap ∧ cap ≤ maxLen ∧ zs.length = cap ∧ (∀ i, i < zs.length → w.cell? (x.add i) = some (.int k (zs.getD i 0))) ∧ ∀ n ∈ zs, (Lit.int k n).wf = true

theorem rep_ints {F : Cells} (hF : ∀ β o, ¬ F β o) {w : World} {a : Option Addr} {len cap : Nat} {zs : List Int} (h : IsRow .i64 w a len cap zs) :
    Rep F w (.sl ((zs.take len).map (PV.int .i64))) (.slice a len cap) := by
  have flatI : ∀ l : List Int, flat (l.map (PV.int .i64)) = l.map (PV.int .i64) := by
    intro l
    induction l with
    | nil => rfl
    | cons x l ih => rw [List.map_cons, flat_cons, ih]; rfl
  rcases h with ⟨rfl, rfl, rfl, rfl⟩ | ⟨x, rfl, h1, h2, h3, h4, _⟩
  · exact .sl [] none 0 1 (fun _ => undef) (by simp) (by simp) (by simp) (.inl rfl) (by simp [flat])
  · have hlen : ((zs.take len).map (PV.int .i64)).length = len := by simp; omega
    have key : Rep F w (.sl ((zs.take len).map (PV.int .i64))) (.slice (some x) ((zs.take len).map (PV.int .i64)).length cap) := by
      refine .sl _ _ cap 1 (fun k => .int .i64 (zs.getD k 0)) (by simp) (by rw [hlen]; exact h1) (fun y hy => ?_) ?_ (fun k y hy => ?_)
      · obtain ⟨n, _, rfl⟩ := List.mem_map.1 hy
        rfl
      · by_cases h0 : len = 0
        · subst h0; left; simp
        · right
          have hx0 := h4 0 (by omega)
          have hsp : x.spot = none := by
            unfold World.cell? at hx0
            have e : x.add 0 = x := by simp [Addr.add]
            rw [e] at hx0
            cases hs : x.spot with
            | none => rfl
            | some s =>
              rw [hs] at hx0
              split at hx0 <;> simp at hx0
          obtain ⟨b, o, s⟩ := x
          simp only at hsp
          subst hsp
          refine ⟨b, o, rfl, fun k hk => ⟨?_, hF _ _⟩⟩
          rw [flatI] at hk
          have := h4 k (by simp at hk; omega)
          rwa [addr_add] at this
      · rw [flatI] at hy
        rw [List.getElem?_map, Option.map_eq_some_iff] at hy
        obtain ⟨n, hn, rfl⟩ := hy
        rw [List.getElem?_take] at hn
        split at hn
        · have : zs.getD k 0 = n := by simp [List.getD, hn]
          rw [this]
          exact .int _ _
        · cases hn
    rwa [hlen] at key

/-- A law that is true of all lists returns true, whatever the memory, and leaves it as it was. -/
theorem PFun.row {P : Program} {f : FuncId} (h : ∀ l : List Int, l.length ≤ 140737488355328 → PFun P f [.sl (l.map (PV.int .i64))] (.bool true))
    {a : Option Addr} {len cap : Nat} {zs : List Int} {W : World} (hr : IsRow .i64 W a len cap zs) (hs : len * 8 ≤ 140737488351232) :
    Calls P f #[.slice a len cap] W fun e W' => e = .returned (.bool true) ∧ Below W.heap.size W W' := by
  have hF : ∀ β o, ¬ FX (fun _ _ => False) (fun _ => none) ([] : List (Nat × Nat × Nat)) β o := by
    rintro β o (h | h)
    · exact h
    · exact h
  have hM : MRel (fun _ _ => False) (fun _ => none) mem0 W :=
    { inj := fun β β' o h => by cases h
      bnd := fun β o h => by cases h
      xb := fun β o h => h.elim
      memlt := fun β o h => by cases h
      toklt := fun β o h => by cases h
      locin := fun β o h => by cases h
      deadlt := fun b h => by simp [Dead, mem0] at h
      blk := fun b k h => by simp [mem0] at h
      loc := fun d cs h => by simp [mem0, locGet_nil] at h
      tok := fun t e z h => by simp [mem0] at h }
  have hl : (zs.take len).length ≤ 140737488355328 := by
    have : (zs.take len).length ≤ len := List.length_take_le _ _
    omega
  have hc : ACall P f [.p (.sl ((zs.take len).map (PV.int .i64)))] mem0 fun r S => r = .p (.bool true) := PFun.acall (pvs := [.sl ((zs.take len).map (PV.int .i64))]) (h _ hl) rfl rfl
  refine (hc.2 (fun _ _ => False) (fun _ => none) W #[.slice a len cap] hM rfl ?_).mono ?_
  · intro k r v h1 h2
    match k with
    | 0 =>
      simp only [List.getElem?_cons_zero, Option.some.injEq, List.getElem?_toArray] at h1 h2
      subst h1
      subst h2
      exact .p (rep_ints hF hr)
    | k + 1 => simp at h1
  · rintro e W' ⟨v, r, S', ow', rfl, rfl, hM', hv, tr, _⟩
    cases hv with | p hv => cases hv with | bool =>
    exact ⟨rfl, tr.os, tr.tape, tr.output, tr.size, fun β hb => (tr.fr β hb rfl).2⟩

/-- A row's slice of whole numbers is no longer than its weight allows. -/
theorem sized {H : Type} {enc : TypeId × Value → H} {P : Program} {W : World} {base : Nat} {spare : Nat → Bool} {held : Bool} {t e : TypeId} {k : IntKind} {a : Option Addr} {len cap : Nat} {d : DataW H} {ps : List MemPlace} {ts : List TypeId} {ds : List (DataW H)} {j : Nat}
    (hsz : (DataW.weightsEach P ts ds).all (· ≤ reachBytes) = true) (ht : ts[j]? = some t) (hd : ds[j]? = some d) (hu : P.underlying t = some (.slice e)) (he : P.underlying e = some (.int k)) (hc : P.cellsOf e = 1) {B : Nat} (hB : P.bytesOf e = B)
    (h : DataW.Trod enc P W base spare held t (.slice a len cap) d ps) : len * B ≤ 140737488351232 := by
  obtain ⟨fuel, hf⟩ := h
  rcases open_ints hu he hc hf with ⟨hcs, _⟩ | ⟨x, l, c, zs, hcs, _, hl, _, hz, hx, _, _⟩
  · simp [Value.cells] at hcs
    obtain ⟨rfl, rfl, rfl⟩ := hcs
    simp
  · simp [Value.cells] at hcs
    obtain ⟨rfl, rfl, rfl⟩ := hcs
    obtain ⟨hx, _⟩ := Prod.mk.inj hx
    subst hx
    have z := sized_slice hsz ht hd hu
    rw [hB] at z
    have hl2 : len ≤ zs.length := by
      rw [hz]
      split
      · exact hl
      · exact Nat.le_refl _
    have h1 : (lits (H := H) k (zs.take len)).length + (lits (H := H) k (zs.drop len)).length = zs.length := by
      simp [lits]
      omega
    rw [h1] at z
    exact Nat.le_trans (Nat.mul_le_mul_right _ hl2) z
end Go.Ag
/- 'gatewarden/gatekeep2.PricesGrow': for every list of whole numbers the law returns true, and the list reads behind the call as it read before; condition: the listed variables of Go's library hold what the program's text lays, which the card ties. -/
namespace Go.Proofs.YtkfnogdkfedaaaaGreatDoor.pricesGrow
open Go.ChangeShapes Go.WideShapes Go.ChangeAt Go.RowKit
set_option linter.unusedVariables false
theorem own : ownKnob Tryz.prog.godebug = none := by kernel_rfl
theorem laidOut : laidOutB Tryz.prog = true := by kernel_rfl
set_option maxRecDepth 100000 in
theorem lifted (os : Os) (started : os.Started) (H : Type) (enc : TypeId × Value → H) :
    ReturnsInHanded {} Tryz.checked os 9 .any (fun w args => (Rows.pricesGrowSpec.pre enc Tryz.prog Tryz.f9 Rows.pricesGrowRow.domain false w args ∧ laidMetH Tryz.prog Rows.pricesGrowRow.laid w) ∧ sizedMet enc Tryz.prog Tryz.f9 (OpenSpec.ofChange Rows.pricesGrowSpec) false w args)
      (Rows.pricesGrowSpec.post enc Tryz.prog Tryz.f9 false true false false) := by
  refine returnsInHanded_of_change_and (C := Tryz.checked) (X := fun w _ => laidMetH Tryz.prog Rows.pricesGrowRow.laid w) (fun _ _ _ hh h => h.of_heap hh) own started (by kernel_rfl) Tryz.func9
    (ChangeSpec.witness_shaped (enc := enc) (C := Tryz.checked) (os := os) (X := fun w _ => laidMetH Tryz.prog Rows.pricesGrowRow.laid w) false (World.laidAll Tryz.prog os Rows.pricesGrowRow.laid) #[.slice none 0 0] 8 (World.laidAll_os _ _ _)
      (World.shaped_of_ZipB (by kernel_rfl) (by kernel_rfl)) (by kernel_rfl) (by kernel_rfl) (by kernel_rfl)
      (by rw [MakeChecks.laidMetH_plain _ _ _ (by kernel_rfl)]; exact laidMet_laidAll _ (by kernel_rfl) (by kernel_rfl))) ?_
  intro W base args ds gs before hval0 hW hcnd hsz0 hL _
  have hsz : (DataW.weightsEach Tryz.prog (Tryz.f9.params.toList ++ Rows.pricesGrowSpec.plain.varTypes Tryz.prog) (ds ++ gs)).all (· ≤ reachBytes) = true := hsz0
  have hval : ∀ (j : Nat) t v, Tryz.f9.params[j]? = some t → args[j]? = some v → Value.okWide Tryz.prog W .any base t v := hval0
  have hW' := hW
  obtain ⟨p, q, hA0, hV, rfl, hfz, hnd⟩ := hW
  have hA : DataW.TrodAll enc Tryz.prog W 0 (fun _ => true) true Tryz.f9.params.toList args.toList ds p := hA0
  rw [Tryz.params9] at hA hval hsz
  obtain ⟨v0, vs0, d0, ds0, p0, q0, hargs, rfl, rfl, h0, r0⟩ := trodAll_cons hA
  obtain ⟨rfl, rfl, rfl⟩ := trodAll_nil r0
  obtain rfl : args = #[v0] := by cases args; simp_all
  obtain ⟨rfl, rfl⟩ := trodVars_none hV
  obtain ⟨a0, len0, cap0, rfl⟩ := okWide_slice Tryz.underlying22 (hval 0 22 v0 rfl rfl)
  have k0 := h0
  have lt0 : ∀ x ∈ p0, x.block < W.heap.size := by obtain ⟨m, hm⟩ := k0; exact DataW.trod_lt m _ _ _ hm
  obtain ⟨z0, w0⟩ : ∃ zs, Go.Ag.IsRow .i64 W a0 len0 cap0 zs := by
    obtain ⟨fuel, hf⟩ := h0
    rcases open_ints Tryz.underlying22 Tryz.underlying3 (by kernel_rfl) hf with ⟨hcs, _⟩ | ⟨x, l, c, zs, hcs, _, hl, hm, hz, _, hcell, hwz⟩
    · simp [Value.cells] at hcs
      obtain ⟨rfl, rfl, rfl⟩ := hcs
      exact ⟨[], .inl ⟨rfl, rfl, rfl, rfl⟩⟩
    · simp [Value.cells] at hcs
      obtain ⟨rfl, rfl, rfl⟩ := hcs
      exact ⟨zs, .inr ⟨_, rfl, hl, hm, by simpa using hz, hcell, hwz⟩⟩
  have y0 : len0 * 8 ≤ 140737488351232 := Go.Ag.sized hsz (j := 0) (t := 22) rfl rfl Tryz.underlying22 Tryz.underlying3 (by kernel_rfl) (by kernel_rfl) h0
  clear hA0 hval0 hsz0 hsz
  refine (Go.Ag.PFun.row Go.Ag.law9 w0 y0).mono fun e W' ⟨he, bel⟩ => ?_
  subst he
  exact ⟨_, rfl, _, _, _, [], _, [], hW', trodAll_mk1 (shut_bool Tryz.underlying4 _), (trodAll_cons_mk (Below.trod laidOut (by kernel_rfl) (of_decide_eq_true (by kernel_rfl)) k0 bel lt0) trodAll_mk0), rfl, bel.frame _, fun h => by cases h⟩
set_option maxHeartbeats 0 in
theorem joined : joinedFacts Tryz.pinned.checked.prog 9 Tryz.f9 Rows.pricesGrowSpec Rows.pricesGrowRow = true := by
  simp only [joinedFacts, Bool.and_eq_true]
  refine ⟨⟨⟨⟨⟨⟨⟨⟨⟨⟨⟨⟨⟨⟨⟨⟨⟨⟨⟨⟨⟨⟨⟨⟨⟨⟨⟨⟨⟨⟨⟨?_, ?_⟩, ?_⟩, ?_⟩, ?_⟩, ?_⟩, ?_⟩, ?_⟩, ?_⟩, ?_⟩, ?_⟩, ?_⟩, ?_⟩, ?_⟩, ?_⟩, ?_⟩, ?_⟩, ?_⟩, ?_⟩, ?_⟩, ?_⟩, ?_⟩, ?_⟩, ?_⟩, ?_⟩, ?_⟩, ?_⟩, ?_⟩, ?_⟩, ?_⟩, ?_⟩, ?_⟩ <;> as_aux_lemma => kernel_rfl
theorem said : Rows.PricesGrowSaid :=
  OpenClaim.holds_of_wide 9 Tryz.f9 rfl rfl rfl rfl rfl rfl rfl ⟨rfl, rfl, rfl, rfl, rfl⟩ rfl rfl rfl rfl rfl (by kernel_rfl) Tryz.func9 joined
    (of_decide_eq_true (by kernel_rfl)) (by unfold Func.isWrapper; first | (rw [if_pos (by decide +kernel)]; kernel_rfl) | (rw [if_neg (by decide +kernel)]; exact ⟨rfl, rfl⟩))
    (fun os started H enc _ => lifted os started H enc)
theorem plain (f : FuncId) (fn : Func) (hf : Tryz.pinned.checked.prog.funcNamed Tryz.f9.name = some f) (hfn : Tryz.pinned.checked.prog.funcs[f]? = some fn) :
    true = Tryz.pinned.checked.prog.looks [] ∧ ∀ (j : Nat) t, fn.params[j]? = some t → Tryz.pinned.checked.prog.wantsStandIn t = false := by
  obtain rfl : f = 9 := Option.some.inj ((show Tryz.prog.funcNamed Tryz.f9.name = some 9 by kernel_rfl).symm.trans hf) |>.symm
  obtain rfl : fn = Tryz.f9 := (Option.some.inj (Tryz.func9.symm.trans hfn)).symm
  refine ⟨by kernel_rfl, fun j t ht => ?_⟩
  rw [Tryz.params9] at ht
  obtain rfl : t = 22 := by simpa using Array.mem_of_getElem? ht
  exact (show Tryz.prog.wantsStandIn 22 = false by kernel_rfl)
theorem card : Rows.PricesGrowCardSaid :=
  Claim7.holds_tied_plain_at .later [] _ _ _ _ said (fun _ h => by cases h) (by kernel_rfl) (fun _ h => by cases h) pricesGrow_row_tie rfl ⟨rfl, rfl⟩ (by kernel_rfl) rfl plain (by kernel_rfl)
#print axioms card
end Go.Proofs.YtkfnogdkfedaaaaGreatDoor.pricesGrow
namespace Go.Proofs.YtkfnogdkfedaaaaGreatDoor
theorem pricesGrow_card : Rows.PricesGrowCardSaid := pricesGrow.card
end Go.Proofs.YtkfnogdkfedaaaaGreatDoor
