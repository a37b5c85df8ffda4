/- Several texts of one proof in one file, one after another, each with its own head: the machine's side of a law and the plain side; conditions: those of each theorem. -/
import Derived.Test.YtkfnogdkfedaaaaGreatDoorMHealthIsByItself1
import Derived.Test.YtkfnogdkfedaaaaGreatDoorProg
import Derived.KernelRfl
set_option linter.unusedVariables false
set_option linter.unusedSimpArgs false
/- An abstract machine for Go functions: what runs at constants holds of the function. -/
namespace Go.Ag
open Go
set_option linter.unusedVariables false
set_option linter.unusedSimpArgs false
section
variable {P : Program}

/-- What a callee of the evaluator says holds of the program's function. -/
def CallOk (P : Program) (call : Callee) : Prop :=
  ∀ f args S r S', S.loc = [] → call f args S = some (r, S') → SC P f args S fun r' S'' => r' = r ∧ S'' = S'

theorem evAct_sound {call : Callee} (hc : CallOk P call) {d : Bool} {act : IAct} {vals : List RV} {S S' : Mem} {r : RV} (h : evAct call d act vals S = some (r, S')) :
    (actWp P act vals S fun r' S'' => r' = r ∧ S'' = S') ∧ (d = true → actP P act vals S fun r' S'' => r' = r ∧ S'' = S') := by
  have go : ∀ (f : FuncId) (vs : List RV), (call f vs { S with loc := [] }).map (fun x => (x.1, ({ x.2 with loc := S.loc } : Mem))) = some (r, S') →
      ACall P f vs S fun r' S'' => r' = r ∧ S'' = S' := by
    intro f vs h
    simp only [Option.map_eq_some_iff] at h
    obtain ⟨⟨r1, S1⟩, h1, h2⟩ := h
    cases h2
    refine SC.acall ((hc f vs { S with loc := [] } r1 S1 rfl h1).mono ?_)
    rintro r' S'' ⟨rfl, rfl⟩
    exact ⟨rfl, rfl⟩
  cases act with
  | op o =>
    simp only [evAct] at h
    have : actWp P (.op o) vals S fun r' S'' => r' = r ∧ S'' = S' := by
      show (match opA o vals S with | some (r, S') => _ | none => False)
      rw [h]
      exact ⟨rfl, rfl⟩
    exact ⟨this, fun _ => this⟩
  | call f =>
    simp only [evAct] at h
    split at h
    · exact ⟨⟨by assumption, go f vals h⟩, fun _ => ⟨by assumption, go f vals h⟩⟩
    · cases h
  | callP f =>
    simp only [evAct] at h
    split at h
    · rename_i pvs hpvs
      split at h
      · rename_i r1 S1 h1
        simp only [Option.map_eq_some_iff] at h
        obtain ⟨q, h2, h3⟩ := h
        cases h3
        have : ∃ pvs r, RV.toPVs vals = some pvs ∧ PFun P f pvs r ∧ (RV.p r = RV.p q ∧ S = S) := ⟨pvs, q, hpvs, (hc f _ mem0 r1 S1 rfl h1).mono (by rintro r' S'' ⟨rfl, rfl⟩; exact h2), rfl, rfl⟩
        exact ⟨.inl this, fun _ => this⟩
      · cases h
    · split at h
      · cases h
      · rename_i hd
        split at h
        · exact ⟨.inr ⟨by assumption, go f vals h⟩, fun e => absurd e hd⟩
        · cases h
  | callv =>
    simp only [evAct] at h
    split at h
    · split at h
      · exact ⟨⟨by assumption, go _ _ h⟩, fun _ => ⟨by assumption, go _ _ h⟩⟩
      · cases h
    · split at h
      · exact ⟨⟨by assumption, go _ _ h⟩, fun _ => ⟨by assumption, go _ _ h⟩⟩
      · cases h
    · cases h

theorem evOps_sound {call : Callee} (hc : CallOk P call) : ∀ (l : List IOper) (e : Env) (S : Mem) (e' : Env) (S' : Mem) (K : Env → Mem → Prop),
    evOps call l e S = some (e', S') → K e' S' → opsWp P l K e S
  | [], e, S, e', S', K, h, hk => by
    simp only [evOps, Option.some.injEq, Prod.mk.injEq] at h
    obtain ⟨rfl, rfl⟩ := h
    exact hk
  | o :: os, e, S, e', S', K, h, hk => by
    simp only [evOps] at h
    simp only [opsWp]
    split at h
    · rename_i hg
      try rw [hg]
      try simp only
      split at h
      · rename_i r S1 h1
        refine actWp_mono (evAct_sound hc h1).1 ?_
        rintro r' S'' ⟨rfl, rfl⟩
        exact evOps_sound hc os _ _ _ _ K h hk
      · cases h
    · rename_i hg
      try rw [hg]
      try simp only
      exact evOps_sound hc os _ _ _ _ K h hk
    · cases h

theorem readsB_spec {act : IAct} {vals : List RV} {S : Mem} {r : RV} (h : readsB act vals S r = true) : readsAs act vals S r := by
  unfold readsB at h
  split at h
  · rename_i o
    simp only [Bool.and_eq_true, decide_eq_true_eq] at h
    obtain ⟨hc, h⟩ := h
    split at h
    · rename_i r' S' ho
      obtain rfl := RV.eqb_spec h
      obtain rfl := op_read hc ho
      exact ho
    · cases h
  · cases h
theorem evOpsD_sound {call : Callee} (hc : CallOk P call) {un : List (Nat × Nat)} : ∀ (l : List IOper) (i : Nat) (h : List Came) (e : Env) (S : Mem) (e' : Env) (S' : Mem) (K : Env → Mem → Prop),
    evOpsD call un i h l e S = some (e', S') → K e' S' → dWp P un i h l K e S
  | [], i, hh, e, S, e', S', K, h, hk => by
    simp only [evOpsD, Option.some.injEq, Prod.mk.injEq] at h
    obtain ⟨rfl, rfl⟩ := h
    exact hk
  | o :: os, i, hh, e, S, e', S', K, h, hk => by
    simp only [evOpsD] at h
    simp only [dWp]
    split at h
    · rename_i hg
      try rw [hg]
      try simp only
      split at h
      · rename_i hd
        split at h
        · rename_i r S1 h1
          split at h
          · rename_i hst
            refine ⟨r, S1, ⟨?_, (evAct_sound hc h1).2 rfl⟩, fun x hx hcon => ?_, evOpsD_sound hc os _ _ _ _ _ _ K h hk⟩
            · revert hd
              cases o.act.dropped with
              | none => intro _; trivial
              | some d => intro hd; simpa using hd
            · simp only [Bool.or_eq_true, List.isEmpty_iff, List.all_eq_true] at hst
              rcases hst with rfl | hst
              · simp at hcon
              · have := hst x hx
                simp only [stabB, hcon, Bool.not_true, Bool.false_or] at this
                split
                · rename_i hw
                  rw [if_pos hw] at this
                  exact readsB_spec this
                · rename_i hw
                  rw [if_neg hw] at this
                  exact readsB_spec this
          · cases h
        · cases h
      · cases h
    · rename_i hg
      try rw [hg]
      try simp only
      exact evOpsD_sound hc os _ _ _ _ _ _ K h hk
    · cases h

theorem bindL_spec {α β : Type} {f : α → Option (List β)} : ∀ {l : List α} {L : List β}, bindL f l = some L → ∀ x ∈ l, ∃ M, f x = some M ∧ ∀ y ∈ M, y ∈ L
  | [], L, h, x, hx => by cases hx
  | [a], L, h, x, hx => by
    simp at hx
    subst hx
    exact ⟨L, h, fun _ h => h⟩
  | a :: b :: l, L, h, x, hx => by
    simp only [bindL] at h
    split at h
    · rename_i A B hA hB
      cases h
      rcases List.mem_cons.1 hx with rfl | hx
      · exact ⟨A, hA, fun y hy => List.mem_append_left _ hy⟩
      · obtain ⟨M, h1, h2⟩ := bindL_spec hB x hx
        exact ⟨M, h1, fun y hy => List.mem_append_right _ (h2 y hy)⟩
    · cases h

theorem evIR_sound {call : Callee} (hc : CallOk P call) : ∀ (n : Nat) (ir : IR) (e : Env) (S : Mem) (L : List (Ex × Env × Mem)) (Q : Ex → Env → Mem → Prop),
    evIR call n ir e S = some L → (∀ x ∈ L, Q x.1 x.2.1 x.2.2) → irWp P ir Q e S := by
  intro n
  induction n using Nat.strongRecOn with
  | ind n ih =>
    intro ir e S L Q h hq
    cases n with
    | zero => simp [evIR] at h
    | succ n =>
      have ihn := ih n (Nat.lt_succ_self n)
      have one : ∀ {x : Ex} {e' : Env} {S' : Mem}, some [(x, e', S')] = some L → Q x e' S' := by
        intro x e' S' h
        cases h
        exact hq _ (List.mem_singleton.2 rfl)
      cases ir with
      | skip => simp only [evIR] at h; exact one h
      | ops l k =>
        simp only [evIR] at h
        split at h
        · rename_i e1 S1 h1
          exact evOps_sound hc l _ _ _ _ _ h1 (one h)
        · cases h
      | opsD l un k =>
        simp only [evIR] at h
        split at h
        · rename_i e1 S1 h1
          exact evOpsD_sound hc l _ _ _ _ _ _ _ h1 (one h)
        · cases h
      | seq a b =>
        simp only [evIR] at h
        rw [irWp_seq]
        split at h
        · rename_i L1 h1
          refine ihn a _ _ _ _ h1 ?_
          rintro ⟨x1, e1, S1⟩ hx
          obtain ⟨M, h2, h3⟩ := bindL_spec h _ hx
          cases x1 with
          | normal => exact ihn b _ _ _ _ h2 (fun y hy => hq y (h3 y hy))
          | exit i => cases h2; exact hq _ (h3 _ (List.mem_singleton.2 rfl))
          | ret => cases h2; exact hq _ (h3 _ (List.mem_singleton.2 rfl))
        · cases h
      | cond c a b =>
        simp only [evIR] at h
        rw [irWp_cond]
        split at h
        · rename_i hx; rw [hx]; exact ihn a _ _ _ _ h hq
        · rename_i hx; rw [hx]; exact ihn b _ _ _ _ h hq
        · rename_i hx
          rw [hx]
          split at h
          · rename_i A B h1 h2
            cases h
            exact ⟨Q, ihn a _ _ _ _ h1 (fun y hy => hq y (List.mem_append_left _ hy)), ihn b _ _ _ _ h2 (fun y hy => hq y (List.mem_append_right _ hy)), fun x e' S' hQ => ⟨e', fun _ => .inl rfl, hQ⟩⟩
          · cases h
        · cases h
      | block id c =>
        simp only [evIR] at h
        rw [irWp_block]
        split at h
        · rename_i L1 h1
          cases h
          refine ihn c _ _ _ _ h1 ?_
          rintro ⟨x1, e1, S1⟩ hx
          have := hq _ (List.mem_map.2 ⟨_, hx, rfl⟩)
          cases x1 with
          | normal => exact this
          | exit i =>
            simp only at this
            rw [inBlock_exit]
            split
            · rename_i hi; rw [if_pos hi] at this; exact this
            · rename_i hi; rw [if_neg hi] at this; exact this
          | ret => exact this
        · cases h
      | exit id => simp only [evIR] at h; exact one h
      | ret => simp only [evIR] at h; exact one h
      | no => simp [evIR] at h
      | loop k c =>
        simp only [evIR] at h
        -- what is left to run, with so much fuel
        let I : Nat → Env → Mem → Prop := fun m e S => m ≤ n ∧ ∃ L, (match evIR call m c e S with
          | some L => bindL (fun x => match x with
            | (.normal, e, S) => evIR call m (.loop k c) e S
            | r => some [r]) L
          | none => none) = some L ∧ ∀ x ∈ L, Q x.1 x.2.1 x.2.2
        refine ⟨I, n, ⟨Nat.le_refl n, L, h, hq⟩, ?_⟩
        rintro m e S ⟨hm, L, h, hq⟩
        have ihm := ih m (by omega)
        split at h
        · rename_i L1 h1
          refine ihm c _ _ _ _ h1 ?_
          rintro ⟨x1, e1, S1⟩ hx
          obtain ⟨M, h2, h3⟩ := bindL_spec h _ hx
          cases x1 with
          | normal =>
            cases m with
            | zero => simp [evIR] at h2
            | succ m =>
              simp only [evIR] at h2
              exact ⟨m, Nat.lt_succ_self m, by omega, M, h2, fun y hy => hq y (h3 y hy)⟩
          | exit i => cases h2; exact hq _ (h3 _ (List.mem_singleton.2 rfl))
          | ret => cases h2; exact hq _ (h3 _ (List.mem_singleton.2 rfl))
        · cases h

theorem RV.wk.trans {a b c : RV} (h : RV.wk a b) (k : RV.wk b c) : RV.wk a c := by
  rcases h with rfl | rfl | ⟨x, rfl, rfl⟩
  · exact k
  · rcases k with rfl | rfl | ⟨y, h, _⟩
    · exact .inr (.inl rfl)
    · exact .inr (.inl rfl)
    · cases h
  · rcases k with rfl | rfl | ⟨y, h, rfl⟩
    · exact .inr (.inr ⟨x, rfl, rfl⟩)
    · exact .inr (.inl rfl)
    · exact .inr (.inr ⟨x, rfl, rfl⟩)
theorem FRep.wk {F w ow T} {a b : RV} {v : Value} (h : FRep F w ow T a v) (k : RV.wk a b) : FRep F w ow T b v := by
  rcases k with rfl | rfl | ⟨x, rfl, rfl⟩
  · exact h
  · exact .top v
  · cases h with | nsl _ a h => exact .nsl false a (by simp)
theorem SC.wk {f : FuncId} {args : List RV} {S : Mem} {Q Q' : RV → Mem → Prop} (h : SC P f args S Q) (hq : ∀ r S', Q r S' → ∃ r', RV.wk r r' ∧ Q' r' S') : SC P f args S Q' :=
  ⟨h.1, fun X ow w vs a b c d => (h.2 X ow w vs a b c d).mono fun e w' ⟨v, r, S', ow', h1, h2, h3, h4, h5, h6, h7⟩ => by
    obtain ⟨r', k1, k2⟩ := hq _ _ h2
    exact ⟨v, r', S', ow', h1, k2, h3, h4, h5, h6.wk k1, h7⟩⟩
theorem joinR_spec : ∀ {l : List (RV × Mem)} {r : RV} {S : Mem}, joinR l = some (r, S) → ∀ x ∈ l, RV.wk x.1 r ∧ x.2 = S
  | [], r, S, h, x, hx => by cases hx
  | [a], r, S, h, x, hx => by
    simp at hx
    subst hx
    cases h
    exact ⟨.inl rfl, rfl⟩
  | a :: b :: l, r, S, h, x, hx => by
    simp only [joinR] at h
    split at h
    · rename_i y hy
      split at h
      · rename_i he
        have he := Mem.eqb_spec he
        cases h
        obtain ⟨j1, j2⟩ := joinV_spec a.1 y.1
        rcases List.mem_cons.1 hx with rfl | hx
        · exact ⟨j1, he⟩
        · obtain ⟨k1, k2⟩ := joinR_spec (r := y.1) (S := y.2) hy x hx
          exact ⟨k1.trans j2, k2⟩
      · cases h
    · cases h

/-- Each function that the evaluator knows is one of the program's. -/
def TabOk (P : Program) (T : FuncId → Option IFun) : Prop := ∀ f ifn, T f = some ifn → ∃ hn fn, P.funcs[f]? = some fn ∧ trFn P hn fn = some ifn

theorem evFn_sound (hmix : P.follows .mixedOrders = true) {T : FuncId → Option IFun} {X : Callee} (hT : TabOk P T) (hX : CallOk P X) (fuel : Nat) : ∀ n, CallOk P (evFn T X fuel n) := by
  intro n
  induction n with
  | zero => intro f args S r S' _ h; simp [evFn] at h
  | succ n ih =>
    intro f args S rr S' hS h
    simp only [evFn] at h
    split at h
    · rename_i q hq
      cases h
      exact hX _ _ _ _ _ hS hq
    · split at h
      · rename_i ifn hifn
        obtain ⟨hn, fn, hf, ht⟩ := hT f ifn hifn
        split at h
        · rename_i hlen
          split at h
          · rename_i L hL
            split at h
            · rename_i R hR
              have key : SC P f args S fun r' S'' => RV.wk r' rr ∧ S'' = S' := by
                refine fn_sound hmix hf ht hS hlen ?_
                unfold fnWp
                refine evIR_sound ih fuel ifn.body _ _ _ _ hL ?_
                rintro ⟨x, e1, S1⟩ hx
                obtain ⟨k, hk⟩ := List.getElem?_of_mem hx
                obtain ⟨i1, i2⟩ := mapO_get hR
                have hkl := (List.getElem?_eq_some_iff.1 hk).1
                have hkR : R[k]? = some (R[k]'(by omega)) := List.getElem?_eq_getElem (by omega)
                obtain ⟨y, hy1, hy2⟩ := i2 k _ hkR
                rw [hk] at hy1
                cases hy1
                obtain ⟨j1, j2⟩ := joinR_spec h _ (List.mem_of_getElem? hkR)
                generalize R[k] = z at hy2 j1 j2
                have fin : ∀ r1, resA e1 S1 ifn.res = some r1 → r1.fc = true → z = (r1, { S1 with loc := [] }) → (match resA e1 S1 ifn.res with | some r => r.fc = true ∧ (RV.wk r rr ∧ ({ S1 with loc := [] } : Mem) = S') | none => False) := by
                  intro r1 h1 h2 h3
                  subst h3
                  rw [h1]
                  exact ⟨h2, j1, j2⟩
                cases x with
                | exit i => cases hy2
                | normal =>
                  simp only [evRes] at hy2
                  split at hy2
                  · rename_i r1 hr1
                    split at hy2
                    · rename_i hfc
                      exact fin r1 hr1 hfc (Option.some.inj hy2).symm
                    · cases hy2
                  · cases hy2
                | ret =>
                  simp only [evRes] at hy2
                  split at hy2
                  · rename_i r1 hr1
                    split at hy2
                    · rename_i hfc
                      exact fin r1 hr1 hfc (Option.some.inj hy2).symm
                    · cases hy2
                  · cases hy2
              exact key.wk fun r' S'' ⟨h1, h2⟩ => ⟨rr, h1, rfl, h2⟩
            · cases h
          · cases h
        · cases h
      · cases h

/-! ### A table as a tree -/
inductive BT where
  | leaf
  | node (k : Nat) (v : Option IFun) (l r : BT)
def BT.find : BT → Nat → Option IFun
  | .leaf, _ => none
  | .node k v l r, f => if f = k then v else if f < k then l.find f else r.find f
def BT.Ok (P : Program) : BT → Prop
  | .leaf => True
  | .node k v l r => (∃ hn fn, P.funcs[k]? = some fn ∧ v = trFn P hn fn) ∧ l.Ok P ∧ r.Ok P
theorem BT.ok : ∀ (t : BT), t.Ok P → TabOk P t.find
  | .leaf, _ => by intro f ifn h; simp [BT.find] at h
  | .node k v l r, ⟨⟨hn, fn, h1, h2⟩, h3, h4⟩ => by
    intro f ifn h
    simp only [BT.find] at h
    split at h
    · rename_i hk
      subst hk
      exact ⟨hn, fn, h1, by rw [← h2]; exact h⟩
    · split at h
      · exact BT.ok l h3 f ifn h
      · exact BT.ok r h4 f ifn h
theorem BT.lf : BT.leaf.Ok P := trivial
theorem BT.nd {k : Nat} {hn : FHint} {fn : Func} {l r : BT} (h : P.funcs[k]? = some fn) (hl : l.Ok P) (hr : r.Ok P) : (BT.node k (trFn P hn fn) l r).Ok P := ⟨⟨hn, fn, h, rfl⟩, hl, hr⟩
theorem callOk_none : CallOk P fun _ _ _ => none := by intro f args S r S' _ h; cases h
end
end Go.Ag
/- An abstract machine for Go functions: walking through code whose values are not all known. -/
namespace Go.Ag
open Go
set_option linter.unusedVariables false
set_option linter.unusedSimpArgs false

/-- Here the walk stops and something is to be shown. -/
structure Stop (p : Prop) : Prop where
  h : p
/-- A test: both ways. -/
structure Cmp (c : Prop) (K : Bool → Prop) : Prop where
  t : c → K true
  f : ¬ c → K false
/-- A condition, ahead of what follows. -/
structure Need (c : Prop) (K : Prop) : Prop where
  c : c
  k : K
/-- An element. -/
structure Elt {α : Type} (l : List α) (i : Int) (K : α → Prop) : Prop where
  ge : 0 ≤ i
  lt : i < l.length
  k : ∀ x, l[i.toNat]? = some x → K x
/-- An operation that has to be worked out. -/
structure Opr (o : Option (RV × Mem)) (K : RV → Mem → Prop) : Prop where
  h : ∃ r S, o = some (r, S) ∧ K r S
/-- A call with values. -/
structure CallV (P : Program) (f : FuncId) (args : List PV) (K : PV → Prop) : Prop where
  h : ∃ r, PFun P f args r ∧ K r
/-- A call with memory. -/
structure CallM (P : Program) (f : FuncId) (args : List RV) (S : Mem) (K : RV → Mem → Prop) : Prop where
  h : args.all RV.fc = true ∧ ACall P f args S K
structure CallD (P : Program) (f : FuncId) (args : List RV) (S : Mem) (K : RV → Mem → Prop) : Prop where
  h : args.all RV.fc = true ∧ ∃ r S', ACall P f args S (fun r' S'' => r' = r ∧ S'' = S') ∧ K r S'

theorem Cmp.yes {c : Prop} {K : Bool → Prop} (h : c) (k : K true) : Cmp c K := ⟨fun _ => k, fun n => absurd h n⟩
theorem Cmp.no {c : Prop} {K : Bool → Prop} (h : ¬ c) (k : K false) : Cmp c K := ⟨fun n => absurd n h, fun _ => k⟩
theorem Elt.mk' {α : Type} {l : List α} {i : Int} {K : α → Prop} {x : α} (h0 : 0 ≤ i) (h : l[i.toNat]? = some x) (k : K x) : Elt l i K :=
  ⟨h0, by have := (List.getElem?_eq_some_iff.1 h).1; omega, fun y hy => by rw [h] at hy; cases hy; exact k⟩
theorem Elt.map {α β : Type} {f : α → β} {l : List α} {i : Int} {K : β → Prop} (h0 : 0 ≤ i) (h1 : i < l.length) (k : ∀ x, l[i.toNat]? = some x → K (f x)) : Elt (l.map f) i K :=
  ⟨h0, by simpa using h1, fun y hy => by
    rw [List.getElem?_map, Option.map_eq_some_iff] at hy
    obtain ⟨x, hx, rfl⟩ := hy
    exact k x hx⟩
theorem Opr.of {o : Option (RV × Mem)} {K : RV → Mem → Prop} {r : RV} {S : Mem} (h : o = some (r, S)) (k : K r S) : Opr o K := ⟨⟨r, S, h, k⟩⟩
theorem CallV.of {P : Program} {f : FuncId} {args : List PV} {K : PV → Prop} {r : PV} (h : PFun P f args r) (k : K r) : CallV P f args K := ⟨⟨r, h, k⟩⟩
theorem CallM.of {P : Program} {f : FuncId} {args : List RV} {S : Mem} {K : RV → Mem → Prop} {Q : RV → Mem → Prop} (hfc : args.all RV.fc = true) (h : SC P f args { S with loc := [] } Q) (k : ∀ r S', Q r S' → K r { S' with loc := S.loc }) : CallM P f args S K :=
  ⟨⟨hfc, SC.acall (h.mono fun r S' hq => k r S' hq)⟩⟩
theorem CallD.of {P : Program} {f : FuncId} {args : List RV} {S : Mem} {K : RV → Mem → Prop} {r : RV} {S' : Mem} (hfc : args.all RV.fc = true) (h : SC P f args { S with loc := [] } fun r' S'' => r' = r ∧ S'' = S') (k : K r { S' with loc := S.loc }) : CallD P f args S K :=
  ⟨⟨hfc, r, { S' with loc := S.loc }, SC.acall (h.mono fun r' S'' ⟨h1, h2⟩ => ⟨h1, by rw [h2]⟩), k⟩⟩

def inR (x : Int) : Prop := -9223372036854775808 ≤ x ∧ x ≤ 9223372036854775807
def arith (k : IntKind) (x : Int) (K : PV → Prop) : Prop :=
  match k with
  | .i64 => Stop (Need (inR x) (K (.int .i64 x)))
  | k => K (.int k (k.wrap x))
def intF (o : BinOp) (k : IntKind) (a b : Int) (K : PV → Prop) : Prop :=
  match o with
  | .lss => Stop (Cmp (a < b) fun c => K (.bool c))
  | .leq => Stop (Cmp (a ≤ b) fun c => K (.bool c))
  | .gtr => Stop (Cmp (b < a) fun c => K (.bool c))
  | .geq => Stop (Cmp (b ≤ a) fun c => K (.bool c))
  | .eql => Stop (Cmp (a = b) fun c => K (.bool c))
  | .neq => Stop (Cmp (a = b) fun c => K (.bool (!c)))
  | .add => arith k (a + b) K
  | .sub => arith k (a - b) K
  | .mul => arith k (a * b) K
  | .quo => Stop (Need (b ≠ 0) (K (.int k (k.wrap (a.tdiv b)))))
  | .rem => Stop (Need (b ≠ 0) (K (.int k (a.tmod b))))
  | o => match intBin o k a b with
    | some x => K x
    | none => False
def strF (o : BinOp) (a b : List UInt8) (K : PV → Prop) : Prop :=
  match o with
  | .eql => Stop (Cmp (a = b) fun c => K (.bool c))
  | .neq => Stop (Cmp (a = b) fun c => K (.bool (!c)))
  | o => Stop (Opr ((strBin o a b).map fun x => (.p x, mem0)) fun r _ => match r with
    | .p x => K x
    | _ => False)
/-- The bounds of a cut. -/
def cutF (lo hi : Option Int) (n : Nat) (K : Nat → Nat → Prop) : Prop :=
  match lo, hi with
  | none, none => K 0 n
  | some l, none => Stop (Need (0 ≤ l ∧ l ≤ n) (K l.toNat n))
  | none, some h => Stop (Need (0 ≤ h ∧ h ≤ n) (K 0 h.toNat))
  | some l, some h => Stop (Need (0 ≤ l ∧ l ≤ h ∧ h ≤ n) (K l.toNat h.toNat))

/-- A value, looked at. -/
def nfP (x : PV) (K : PV → Prop) : Prop :=
  match x with
  | .bool b => match b with
    | true => K (.bool true)
    | false => K (.bool false)
  | .int k n => match k with
    | .i64 => K (.int .i64 n)
    | .u8 => K (.int .u8 n)
    | k => K (.int k n)
  | .str s => K (.str s)
  | .sl l => K (.sl l)
  | .agg cs => K (.agg cs)
  | .tup cs => K (.tup cs)
  | x => K x
def nfV (v : RV) (K : RV → Prop) : Prop :=
  match v with
  | .p x => nfP x fun x => K (.p x)
  | .ptr b o => K (.ptr b o)
  | .la d o => K (.la d o)
  | .agg cs => K (.agg cs)
  | .tup cs => K (.tup cs)
  | v => K v
def nfE (e : Env) : List Nat → (Env → Prop) → Prop
  | [], K => K []
  | t :: ts, K => nfV (e.get t) fun v => nfE e ts fun r => K ((t, v) :: r)
theorem nfP_iff {x : PV} {K : PV → Prop} : nfP x K → K x := by
  intro h
  unfold nfP at h
  split at h
  · split at h <;> exact h
  · split at h <;> exact h
  all_goals exact h
theorem nfV_iff {x : RV} {K : RV → Prop} : nfV x K → K x := by
  intro h
  unfold nfV at h
  split at h
  · exact nfP_iff h
  all_goals exact h
/-- A list of values, its spine looked at. -/
def nfL (l : List RV) : (List RV → Prop) → Prop :=
  List.rec (motive := fun _ => (List RV → Prop) → Prop) (fun K => K []) (fun x _ ih K => ih fun r => K (x :: r)) l
/-- .. and the values, too. -/
def nfA (l : List RV) : (List RV → Prop) → Prop :=
  List.rec (motive := fun _ => (List RV → Prop) → Prop) (fun K => K []) (fun x _ ih K => nfV x fun x => ih fun r => K (x :: r)) l
def nfS (l : List (Nat × List RV)) : (List (Nat × List RV) → Prop) → Prop :=
  List.rec (motive := fun _ => (List (Nat × List RV) → Prop) → Prop) (fun K => K []) (fun x _ ih K => nfL x.2 fun cs => ih fun r => K ((x.1, cs) :: r)) l
def nfM (S : Mem) (K : Mem → Prop) : Prop := nfS S.loc fun loc => K { S with loc := loc }
theorem nfL_iff : ∀ {l : List RV} {K : List RV → Prop}, nfL l K → K l
  | [], K, h => h
  | x :: r, K, h => nfL_iff (l := r) (K := fun r => K (x :: r)) h
theorem nfA_iff : ∀ {l : List RV} {K : List RV → Prop}, nfA l K → K l
  | [], K, h => h
  | x :: r, K, h => nfA_iff (l := r) (K := fun r => K (x :: r)) (nfV_iff (K := fun x => nfA r fun r => K (x :: r)) h)
theorem nfS_iff : ∀ {l : List (Nat × List RV)} {K : List (Nat × List RV) → Prop}, nfS l K → K l
  | [], K, h => h
  | x :: r, K, h => nfS_iff (l := r) (K := fun r => K (x :: r)) (nfL_iff (l := x.2) (K := fun cs => nfS r fun r => K ((x.1, cs) :: r)) h)
theorem nfM_iff {S : Mem} {K : Mem → Prop} (h : nfM S K) : K S := nfS_iff (K := fun loc => K { S with loc := loc }) h
/-- A row is built, step by step. -/
def fillF (pl : List (Nat × Nat)) (rs : List (Nat × RV)) : List RV → (List RV → Prop) → Prop :=
  List.rec (motive := fun _ => List RV → (List RV → Prop) → Prop) (fun cs K => K cs)
    (fun x _ ih cs K => match fillA pl cs [x] with
      | some cs' => nfL cs' fun cs' => ih cs' K
      | none => False) rs
theorem fillF_spec {pl : List (Nat × Nat)} : ∀ {rs : List (Nat × RV)} {cs : List RV} {K : List RV → Prop}, fillF pl rs cs K → ∃ out, fillA pl cs rs = some out ∧ K out
  | [], cs, K, h => ⟨cs, rfl, h⟩
  | (i, r) :: rs, cs, K, h => by
    have h : (match fillA pl cs [(i, r)] with
      | some cs' => nfL cs' fun cs' => fillF pl rs cs' K
      | none => False) := h
    split at h
    · rename_i cs' hc
      obtain ⟨out, h1, h2⟩ := fillF_spec (nfL_iff (K := fun cs' => fillF pl rs cs' K) h)
      refine ⟨out, ?_, h2⟩
      simp only [fillA] at hc ⊢
      split at hc
      · cases hc
      · split at hc
        · rename_i hcond
          rw [if_pos hcond]
          cases hc
          exact h1
        · cases hc
    · exact h.elim
/-- Whether a block is a row whose end is not known. -/
def oddB (S : Mem) (b : Nat) : Bool :=
  match S.mem[b]? with
  | some (.cells ty _) => Nat.beq (ty % 2) 1
  | _ => false
/- (q: reads and writes through pointers are worked out by hand, for memory that is not all known.) -/
def opF (q : Bool) (o : IOp) (vals : List RV) (S : Mem) (K : RV → Mem → Prop) : Prop :=
  match o, vals with
  | .bin o .num, [.p (.int k a), .p (.int k' b)] => if o = .shl ∨ o = .shr then (match intShift o k a b with | some x => K (.p x) S | none => False) else if k = k' then intF o k a b fun x => K (.p x) S else False
  | .bin o .num, [.p (.str a), .p (.str b)] => strF o a b fun x => K (.p x) S
  | .ixs, [.p (.str s), .p (.int _ i)] => Stop (Elt s i fun b => K (.p (.int .u8 b.toNat)) S)
  | .ia z, [.p (.sl l), .p (.int _ i)] => Stop (Elt l i fun x => x.cells.length = z ∧ K (.p (.ro x.cells)) S)
  | .ia z, [.own l _, .p (.int _ i)] => Stop (Elt l i fun x => x.cells.length = z ∧ K (.p (.ro x.cells)) S)
  | .ia z, [.rs b off len z', .p (.int k i)] => Stop (Opr (opA (.ia z) [.rs b off len z', .p (.int k i)] S) K)
  | .sls lo hi, .p (.str s) :: r => match cutArgs lo hi r with
    | some (l, h) => cutF l h s.length fun a b => K (.p (.str (cutL s a b))) S
    | none => False
  | .sll z lo hi, .p (.sl s) :: r => match cutArgs lo hi r with
    | some (l, h) => cutF l h s.length fun a b => Stop (Need (uni z s = true) (K (.p (.sl (cutL s a b))) S))
    | none => False
  | .app z ty b str, vals => Stop (Opr (opA (.app z ty b str) vals S) K)
  | .b2s, vals => Stop (Opr (opA .b2s vals S) K)
  | .y o, vals => Stop (Opr (opY o vals S) K)
  | .mks z ty b zc, vals => Stop (Opr (opA (.mks z ty b zc) vals S) K)
  | .x o, vals => Stop (Opr (opX o vals S) K)
  | .cint k, [.p (.int _ n)] => K (.p (.int k (k.wrap n))) S
  | .sll z lo hi, .rs b off len z' :: r => Stop (Opr (opA (.sll z lo hi) (.rs b off len z' :: r) S) K)
  | .ld n, [.ptr b o] => match q || oddB S b with
    | true => Stop (Opr (opA (.ld n) [.ptr b o] S) K)
    | false => match opA (.ld n) [.ptr b o] S with
      | some (r, S') => K r S'
      | none => False
  | .st n, [.ptr b o, x] => match q || oddB S b with
    | true => Stop (Opr (opA (.st n) [.ptr b o, x] S) K)
    | false => match opA (.st n) [.ptr b o, x] S with
      | some (r, S') => nfM S' fun S' => K r S'
      | none => False
  | .st n, vals => match opA (.st n) vals S with
    | some (r, S') => nfM S' fun S' => K r S'
    | none => False
  | .build a b c, vals => fillF b (c.zip vals) a fun cs => K (.agg cs) S
  | o, vals => match opA o vals S with
    | some (r, S') => K r S'
    | none => False

def actF (q : Bool) (P : Program) (act : IAct) (vals : List RV) (S : Mem) (K : RV → Mem → Prop) : Prop :=
  match act with
  | .op o => opF q o vals S K
  | .callP f => match RV.toPVs vals with
    | some pvs => Stop (CallV P f pvs fun r => K (.p r) S)
    | none => Stop (CallM P f vals S K)
  | .call f => Stop (CallM P f vals S K)
  | .callv => match vals with
    | .p (.fn f a b) :: rest => match rest.all RV.fc with
      | true => Stop (CallM P f (a.map .p ++ rest ++ b.map .p) S K)
      | false => False
    | .fn f a b :: rest => match rest.all RV.fc with
      | true => Stop (CallM P f (a ++ rest ++ b) S K)
      | false => False
    | _ => False
/-- .. in a region that leaves its order open. -/
def actFD (q : Bool) (P : Program) (act : IAct) (vals : List RV) (S : Mem) (K : RV → Mem → Prop) : Prop :=
  match act with
  | .op o => opF q o vals S K
  | .callP f => match RV.toPVs vals with
    | some pvs => Stop (CallV P f pvs fun r => K (.p r) S)
    | none => False
  | .call f => Stop (CallD P f vals S K)
  | .callv => match vals with
    | .p (.fn f a b) :: rest => match rest.all RV.fc with
      | true => Stop (CallD P f (a.map .p ++ rest ++ b.map .p) S K)
      | false => False
    | .fn f a b :: rest => match rest.all RV.fc with
      | true => Stop (CallD P f (a ++ rest ++ b) S K)
      | false => False
    | _ => False

theorem nfE_iff {e : Env} : ∀ {l : List Nat} {K : Env → Prop}, nfE e l K → K (l.map fun t => (t, e.get t))
  | [], K, h => h
  | t :: ts, K, h => by
    have := nfV_iff h
    exact nfE_iff (K := fun r => K ((t, e.get t) :: r)) this
/-- What is kept, looked at. -/
def keepF (k : Option (List Nat)) (e : Env) (K : Env → Prop) : Prop :=
  match k with
  | some l => nfE (e.keepV l) l K
  | none => K e
theorem keepF_spec {k : Option (List Nat)} {e : Env} {K : Env → Prop} (h : keepF k e K) : K (keepE k e) := by
  cases k with
  | none => exact h
  | some l =>
    have h1 := nfE_iff h
    have : (l.map fun t => (t, (e.keepV l).get t)) = e.keepV l := by
      show _ = l.map fun t => (t, keptV l (e.get t))
      refine List.map_congr_left fun t ht => ?_
      rw [get_keepV, if_pos ht]
    rw [this] at h1
    exact h1
def setK : Env → Nat → RV → (Env → Prop) → Prop
  | [], t, v, K => K [(t, v)]
  | (k, u) :: r, t, v, K => match Nat.beq k t with
    | true => K ((t, v) :: r)
    | false => setK r t v fun r' => K ((k, u) :: r')
theorem setK_iff : ∀ {e : Env} {t : Nat} {v : RV} {K : Env → Prop}, setK e t v K → K (e.set t v)
  | [], t, v, K, h => h
  | (k, u) :: r, t, v, K, h => by
    simp only [setK] at h
    simp only [Env.set]
    cases hb : Nat.beq k t with
    | true => rw [hb] at h; exact h
    | false => rw [hb] at h; exact setK_iff (K := fun r' => K ((k, u) :: r')) h
def strikeV (d : Nat) (v : RV) (K : RV → Prop) : Prop :=
  match v with
  | .la d' o => match Nat.beq d' d with
    | true => K .top
    | false => K (.la d' o)
  | v => K v
theorem strikeV_iff {d : Nat} {v : RV} {K : RV → Prop} (h : strikeV d v K) : K (struck d v) := by
  cases v with
  | la d' o =>
    simp only [strikeV] at h
    simp only [struck]
    cases hb : Nat.beq d' d with
    | true =>
      rw [hb] at h
      rw [if_pos (Nat.eq_of_beq_eq_true hb)]
      exact h
    | false =>
      rw [hb] at h
      have hne : d' ≠ d := by rintro rfl; rw [Nat.beq_refl] at hb; cases hb
      rw [if_neg hne]
      exact h
  | _ => exact h
def strikeK (d : Nat) : Env → (Env → Prop) → Prop
  | [], K => K []
  | (k, v) :: r, K => strikeV d v fun v => strikeK d r fun r => K ((k, v) :: r)
theorem strikeK_iff {d : Nat} : ∀ {e : Env} {K : Env → Prop}, strikeK d e K → K (e.strike d)
  | [], K, h => h
  | (k, v) :: r, K, h => by
    have h1 : strikeK d r fun r => K ((k, struck d v) :: r) := strikeV_iff (K := fun v => strikeK d r fun r => K ((k, v) :: r)) h
    have h2 := strikeK_iff h1
    have e1 : Env.strike ((k, v) :: r) d = (k, struck d v) :: Env.strike r d := by
      cases v <;> rfl
    rw [e1]
    exact h2
def putF (dr dst : Option Nat) (e : Env) (r : RV) (K : Env → Prop) : Prop :=
  nfV r fun r => match dr with
    | none => match dst with
      | none => K e
      | some d => setK e d r K
    | some x => strikeK x e fun e => match dst with
      | none => K e
      | some d => setK e d r K
theorem putF_iff {dr dst : Option Nat} {e : Env} {r : RV} {K : Env → Prop} (h : putF dr dst e r K) : K (setO dst (strikeO dr e) r) := by
  have h := nfV_iff h
  cases dr with
  | none =>
    cases dst with
    | none => exact h
    | some d => exact setK_iff h
  | some x =>
    have h := strikeK_iff h
    cases dst with
    | none => exact h
    | some d => exact setK_iff h
/-- The memory, looked at. -/
def keepM (k : Option (List Nat)) (S : Mem) (K : Mem → Prop) : Prop :=
  match S with
  | ⟨[], m, t⟩ => K ⟨[], m, t⟩
  | ⟨x :: l, m, t⟩ => match k with
    | none => K ⟨x :: l, m, t⟩
    | some ks => match (x :: l).filter (fun x => ks.contains x.1) with
      | [] => K ⟨[], m, t⟩
      | y :: l' => K ⟨y :: l', m, t⟩
theorem keepM_spec {k : Option (List Nat)} {S : Mem} {K : Mem → Prop} (h : keepM k S K) : K (keepS k S) := by
  unfold keepM at h
  split at h
  · cases k <;> exact h
  · split at h
    · exact h
    · rename_i x l m t _ ks
      show K ⟨(x :: l).filter (fun x => ks.contains x.1), m, t⟩
      split at h
      · rename_i he; rw [he]; exact h
      · rename_i he; rw [he]; exact h
/- (By the recursors themselves: so the kernel and the tactics meet the same terms.) -/
def opsF (q : Bool) (P : Program) (l : List IOper) : (Env → Mem → Prop) → Env → Mem → Prop :=
  List.rec (motive := fun _ => (Env → Mem → Prop) → Env → Mem → Prop) (fun K e S => K e S)
    (fun o _ ih K e S => match guardV o.guard e with
      | some true => nfA (o.args.map (·.ev e)) fun vals => actF q P o.act vals S fun r S' => putF o.act.dropped o.dst e r fun e => ih K e S'
      | some false => putF none o.dst e (.tup []) fun e => ih K e S
      | none => False) l
theorem opsF_cons {q : Bool} {P : Program} {o : IOper} {os : List IOper} {K : Env → Mem → Prop} {e : Env} {S : Mem} : opsF q P (o :: os) K e S = match guardV o.guard e with
      | some true => nfA (o.args.map (·.ev e)) fun vals => actF q P o.act vals S fun r S' => putF o.act.dropped o.dst e r fun e => opsF q P os K e S'
      | some false => putF none o.dst e (.tup []) fun e => opsF q P os K e S
      | none => False := rfl
def stabF (un : List (Nat × Nat)) (i : Nat) (act : IAct) (vals : List RV) (r : RV) (S S' : Mem) (h : List Came) : Prop → Prop :=
  List.rec (motive := fun _ => Prop → Prop) (fun K => K) (fun x _ ih K => match un.contains (x.i, i) with
    | true => Stop (Need (if x.act.cls = .write then readsAs act vals x.S r else readsAs x.act x.vals S' x.r) (ih K))
    | false => ih K) h
def dF (q : Bool) (P : Program) (un : List (Nat × Nat)) (i : Nat) (h : List Came) (l : List IOper) : (Env → Mem → Prop) → Env → Mem → Prop :=
  List.rec (motive := fun _ => Nat → List Came → (Env → Mem → Prop) → Env → Mem → Prop) (fun _ _ K e S => K e S)
    (fun o _ ih i h K e S => match guardV o.guard e with
      | some true => match (match o.act.dropped with | some d => (locGet S.loc d).isNone | none => true) with
        | true => nfA (o.args.map (·.ev e)) fun vals => actFD q P o.act vals S fun r S' => match un with
          | [] => putF none o.dst e r fun e => ih (i + 1) [] K e S'
          | _ => stabF un i o.act vals r S S' h (putF none o.dst e r fun e' => ih (i + 1) (⟨i, o.act, vals, r, S⟩ :: h) K e' S')
        | false => False
      | some false => putF none o.dst e (.tup []) fun e => ih (i + 1) h K e S
      | none => False) l i h
theorem dF_cons {q : Bool} {P : Program} {un : List (Nat × Nat)} {i : Nat} {h : List Came} {o : IOper} {os : List IOper} {K : Env → Mem → Prop} {e : Env} {S : Mem} : dF q P un i h (o :: os) K e S = match guardV o.guard e with
      | some true => match (match o.act.dropped with | some d => (locGet S.loc d).isNone | none => true) with
        | true => nfA (o.args.map (·.ev e)) fun vals => actFD q P o.act vals S fun r S' => match un with
          | [] => putF none o.dst e r fun e => dF q P un (i + 1) [] os K e S'
          | _ => stabF un i o.act vals r S S' h (putF none o.dst e r fun e' => dF q P un (i + 1) (⟨i, o.act, vals, r, S⟩ :: h) os K e' S')
        | false => False
      | some false => putF none o.dst e (.tup []) fun e => dF q P un (i + 1) h os K e S
      | none => False := rfl
/-- A loop. -/
structure LoopF (P : Program) (wp : (Ex → Env → Mem → Prop) → Env → Mem → Prop) (k : Option (List Nat)) (Q : Ex → Env → Mem → Prop) (e : Env) (S : Mem) : Prop where
  h : ∃ (I : Nat → Env → Mem → Prop) (n : Nat), I n (keepE k e) (keepS k S) ∧
      ∀ n e S, I n e S → wp (Ex.then (fun e' S' => ∃ m, m < n ∧ I m (keepE k e') (keepS k S')) Q) e S
def irF (q : Bool) (P : Program) (ir : IR) : (Ex → Env → Mem → Prop) → Env → Mem → Prop :=
  IR.rec (motive := fun _ => (Ex → Env → Mem → Prop) → Env → Mem → Prop)
    (fun Q e S => Q .normal e S)
    (fun l k Q e S => opsF q P l (fun e S => keepF k e fun e => keepM k S fun S => Q .normal e S) e S)
    (fun l un k Q e S => dF q P un 0 [] l (fun e S => keepF k e fun e => keepM k S fun S => Q .normal e S) e S)
    (fun _ _ fa fb Q e S => fa (Ex.then (fb Q) Q) e S)
    (fun x _ _ fa fb Q e S => match x.ev e with
      | .p (.bool true) => fa Q e S
      | .p (.bool false) => fb Q e S
      | .p .ab => fa Q e S ∧ fb Q e S
      | _ => False)
    (fun id _ fc Q e S => fc (Ex.inBlock id Q) e S)
    (fun k _ fc Q e S => Stop (LoopF P fc k Q e S))
    (fun id Q e S => Q (.exit id) e S)
    (fun Q e S => Q .ret e S)
    (fun _ _ _ => False) ir
theorem irF_cond {q : Bool} {P : Program} {x : Xp} {a b : IR} {Q : Ex → Env → Mem → Prop} {e : Env} {S : Mem} : irF q P (.cond x a b) Q e S = match x.ev e with
      | .p (.bool true) => irF q P a Q e S
      | .p (.bool false) => irF q P b Q e S
      | .p .ab => irF q P a Q e S ∧ irF q P b Q e S
      | _ => False := rfl
/-- The end. -/
structure Fin (p : Prop) : Prop where
  h : p
def fnF (q : Bool) (P : Program) (f : IFun) (args : List RV) (S : Mem) (Q : RV → Mem → Prop) : Prop :=
  irF q P f.body (fun x e S' => match x with
    | .exit _ => False
    | _ => match resA e S' f.res with
      | some r => match r.fc with
        | true => nfV r fun r => Stop (Fin (Q r { S' with loc := [] }))
        | false => False
      | none => False) (argEnv args) S

section
variable {P : Program} {q : Bool}
theorem arith_spec {o : BinOp} {k : IntKind} {x : Int} {K : PV → Prop} (h : arith k x K) : K (.int k (k.wrap x)) := by
  unfold arith at h
  split at h
  · rw [show IntKind.i64.wrap x = x from IntWalk.i64_in x (by have := h.h.c; unfold inR at this; omega)]
    exact h.h.k
  · exact h
theorem intF_spec {o : BinOp} {k : IntKind} {a b : Int} {K : PV → Prop} (h : intF o k a b K) : ∃ x, intBin o k a b = some x ∧ K x := by
  have cmp : ∀ {c : Prop} [Decidable c] {K : Bool → Prop}, Stop (Cmp c K) → K (decide c) := by
    intro c _ K h
    by_cases hc : c
    · simp only [hc, decide_true]; exact h.h.t hc
    · simp only [hc, decide_false]; exact h.h.f hc
  unfold intF at h
  split at h
  · exact ⟨_, rfl, cmp h⟩
  · exact ⟨_, rfl, cmp h⟩
  · exact ⟨_, rfl, cmp h⟩
  · exact ⟨_, rfl, cmp h⟩
  · exact ⟨_, rfl, cmp h⟩
  · exact ⟨_, rfl, cmp h⟩
  · exact ⟨_, rfl, arith_spec (o := .add) h⟩
  · exact ⟨_, rfl, arith_spec (o := .sub) h⟩
  · exact ⟨_, rfl, arith_spec (o := .mul) h⟩
  · exact ⟨_, by simp only [intBin, if_neg h.h.c], h.h.k⟩
  · exact ⟨_, by simp only [intBin, if_neg h.h.c], h.h.k⟩
  · split at h
    · exact ⟨_, by assumption, h⟩
    · exact h.elim
theorem strF_spec {o : BinOp} {a b : List UInt8} {K : PV → Prop} (h : strF o a b K) : ∃ x, strBin o a b = some x ∧ K x := by
  have cmp : ∀ {c : Prop} [Decidable c] {K : Bool → Prop}, Stop (Cmp c K) → K (decide c) := by
    intro c _ K h
    by_cases hc : c
    · simp only [hc, decide_true]; exact h.h.t hc
    · simp only [hc, decide_false]; exact h.h.f hc
  unfold strF at h
  split at h
  · exact ⟨_, rfl, cmp h⟩
  · exact ⟨_, rfl, cmp h⟩
  · obtain ⟨r, S, h1, h2⟩ := h.h.h
    simp only [Option.map_eq_some_iff, Prod.mk.injEq] at h1
    obtain ⟨x, h3, rfl, _⟩ := h1
    exact ⟨x, h3, h2⟩
theorem cutF_spec {lo hi : Option Int} {n : Nat} {K : Nat → Nat → Prop} (h : cutF lo hi n K) : ∃ l r, cutB lo hi n = some (l, r) ∧ K l r := by
  unfold cutF at h
  split at h
  · exact ⟨0, n, by simp [cutB], h⟩
  · obtain ⟨⟨h1, h2⟩, h3⟩ := h.h
    exact ⟨_, n, by simp only [cutB, Option.getD_some, Option.getD_none]; rw [if_pos ⟨h1, h2, Int.le_refl _⟩]; simp, h3⟩
  · obtain ⟨⟨h1, h2⟩, h3⟩ := h.h
    exact ⟨0, _, by simp only [cutB, Option.getD_some, Option.getD_none]; rw [if_pos ⟨Int.le_refl _, h1, h2⟩]; simp, h3⟩
  · obtain ⟨⟨h1, h2, h4⟩, h3⟩ := h.h
    exact ⟨_, _, by simp only [cutB, Option.getD_some]; rw [if_pos ⟨h1, h2, h4⟩], h3⟩
theorem Elt.spec {α : Type} {l : List α} {i : Int} {K : α → Prop} (h : Elt l i K) : ∃ x, 0 ≤ i ∧ l[i.toNat]? = some x ∧ K x := by
  have hlt : i.toNat < l.length := by have := h.lt; have := h.ge; omega
  exact ⟨l[i.toNat], h.ge, List.getElem?_eq_getElem hlt, h.k _ (List.getElem?_eq_getElem hlt)⟩
theorem opF_spec {o : IOp} {vals : List RV} {S : Mem} {K : RV → Mem → Prop} (h : opF q o vals S K) : ∃ r S', opA o vals S = some (r, S') ∧ K r S' := by
  unfold opF at h
  split at h
  · rename_i o k a k' b
    simp only [opA, binOk, if_true, binA, intA]
    split at h
    · rename_i ho
      rw [if_pos ho]
      split at h
      · rename_i x hx
        exact ⟨_, _, by rw [hx]; rfl, h⟩
      · exact h.elim
    · rename_i ho
      rw [if_neg ho]
      split at h
      · rename_i hk
        rw [if_pos hk]
        obtain ⟨x, hx, hK⟩ := intF_spec h
        exact ⟨_, _, by rw [hx]; rfl, hK⟩
      · exact h.elim
  · obtain ⟨x, hx, hK⟩ := strF_spec h
    exact ⟨_, _, by simp only [opA, binOk, if_true, binA, hx]; rfl, hK⟩
  · obtain ⟨x, h0, hx, hK⟩ := h.h.spec
    exact ⟨_, _, by simp only [opA, oStr, oInt, Option.bind_some, ixsA, h0, if_true, hx]; rfl, hK⟩
  · obtain ⟨x, h0, hx, hz, hK⟩ := h.h.spec
    exact ⟨_, _, by simp only [opA, oInt, Option.bind_some, iaA, h0, if_true, hx, hz]; rfl, hK⟩
  · obtain ⟨x, h0, hx, hz, hK⟩ := h.h.spec
    exact ⟨_, _, by simp only [opA, oInt, Option.bind_some, iaA, h0, if_true, hx, hz]; rfl, hK⟩
  · exact h.h.h
  · split at h
    · rename_i l r hc
      obtain ⟨a, b, h1, h2⟩ := cutF_spec h
      exact ⟨_, _, by simp only [opA, oStr, Option.bind_some, hc, h1]; rfl, h2⟩
    · exact h.elim
  · split at h
    · rename_i l r hc
      obtain ⟨a, b, h1, h2⟩ := cutF_spec h
      exact ⟨_, _, by simp only [opA, Option.bind_some, hc, sllA, h1, h2.h.c, if_true]; rfl, h2.h.k⟩
    · exact h.elim
  · exact h.h.h
  · exact h.h.h
  · exact h.h.h
  · exact h.h.h
  · exact h.h.h
  · exact ⟨_, _, rfl, h⟩
  · exact h.h.h
  · split at h
    · exact h.h.h
    · split at h
      · exact ⟨_, _, by assumption, h⟩
      · exact h.elim
  · split at h
    · exact h.h.h
    · split at h
      · exact ⟨_, _, by assumption, nfM_iff (K := fun S' => K _ S') h⟩
      · exact h.elim
  · split at h
    · exact ⟨_, _, by assumption, nfM_iff (K := fun S' => K _ S') h⟩
    · exact h.elim
  · obtain ⟨cs, h1, h2⟩ := fillF_spec (K := fun cs => K (.agg cs) S) h
    exact ⟨_, _, by simp only [opA, h1]; rfl, h2⟩
  · split at h
    · exact ⟨_, _, by assumption, h⟩
    · exact h.elim
theorem actF_spec {act : IAct} {vals : List RV} {S : Mem} {K : RV → Mem → Prop} (h : actF q P act vals S K) : actWp P act vals S K := by
  cases act with
  | op o =>
    obtain ⟨r, S', h1, h2⟩ := opF_spec h
    show (match opA o vals S with | some (r, S') => _ | none => False)
    rw [h1]
    exact h2
  | callP f =>
    simp only [actF] at h
    split at h
    · rename_i pvs hp
      obtain ⟨r, h1, h2⟩ := h.h.h
      exact .inl ⟨pvs, r, hp, h1, h2⟩
    · exact .inr h.h.h
  | call f => exact h.h.h
  | callv =>
    simp only [actF] at h
    simp only [actWp]
    split at h
    · split at h
      · rename_i hfc; exact ⟨hfc, h.h.h.2⟩
      · exact h.elim
    · split at h
      · rename_i hfc; exact ⟨hfc, h.h.h.2⟩
      · exact h.elim
    · exact h.elim
theorem actFD_spec {act : IAct} {vals : List RV} {S : Mem} {K : RV → Mem → Prop} (h : actFD q P act vals S K) : ∃ r S', (actP P act vals S fun r' S'' => r' = r ∧ S'' = S') ∧ K r S' := by
  cases act with
  | op o =>
    obtain ⟨r, S', h1, h2⟩ := opF_spec h
    refine ⟨r, S', ?_, h2⟩
    show (match opA o vals S with | some (r, S') => _ | none => False)
    rw [h1]
    exact ⟨rfl, rfl⟩
  | callP f =>
    simp only [actFD] at h
    split at h
    · rename_i pvs hp
      obtain ⟨r, h1, h2⟩ := h.h.h
      exact ⟨_, _, ⟨pvs, r, hp, h1, rfl, rfl⟩, h2⟩
    · exact h.elim
  | call f =>
    obtain ⟨h1, r, S', h2, h3⟩ := h.h.h
    exact ⟨r, S', ⟨h1, h2⟩, h3⟩
  | callv =>
    simp only [actFD] at h
    simp only [actP, actWp]
    split at h
    · split at h
      · rename_i hfc
        obtain ⟨h1, r, S', h2, h3⟩ := h.h.h
        exact ⟨r, S', ⟨hfc, h2⟩, h3⟩
      · exact h.elim
    · split at h
      · rename_i hfc
        obtain ⟨h1, r, S', h2, h3⟩ := h.h.h
        exact ⟨r, S', ⟨hfc, h2⟩, h3⟩
      · exact h.elim
    · exact h.elim
theorem opsF_spec : ∀ {l : List IOper} {K : Env → Mem → Prop} {e : Env} {S : Mem}, opsF q P l K e S → opsWp P l K e S
  | [], K, e, S, h => h
  | o :: os, K, e, S, h => by
    rw [opsF_cons] at h
    simp only [opsWp]
    split at h
    · rename_i hg
      rw [hg]
      exact actWp_mono (actF_spec (nfA_iff (K := fun vals => actF q P o.act vals S fun r S' => putF o.act.dropped o.dst e r fun e => opsF q P os K e S') h)) fun r S' h => opsF_spec (putF_iff (K := fun e => opsF q P os K e S') h)
    · rename_i hg
      rw [hg]
      exact opsF_spec (putF_iff (K := fun e => opsF q P os K e S) h)
    · exact h.elim
theorem stabF_spec {un : List (Nat × Nat)} {i : Nat} {act : IAct} {vals : List RV} {r : RV} {S S' : Mem} : ∀ {h : List Came} {K : Prop}, stabF un i act vals r S S' h K → (∀ x ∈ h, stab un x i act vals r S S') ∧ K
  | [], K, hk => ⟨fun x hx => (by cases hx), hk⟩
  | y :: h, K, hs => by
    have hs : (match un.contains (y.i, i) with
      | true => Stop (Need (if y.act.cls = .write then readsAs act vals y.S r else readsAs y.act y.vals S' y.r) (stabF un i act vals r S S' h K))
      | false => stabF un i act vals r S S' h K) := hs
    have key : (un.contains (y.i, i) = true → if y.act.cls = .write then readsAs act vals y.S r else readsAs y.act y.vals S' y.r) ∧ stabF un i act vals r S S' h K := by
      cases hc : un.contains (y.i, i) with
      | true => rw [hc] at hs; exact ⟨fun _ => hs.h.c, hs.h.k⟩
      | false => rw [hc] at hs; exact ⟨fun e => (by cases e), hs⟩
    obtain ⟨h2, h3⟩ := stabF_spec key.2
    refine ⟨fun x hx => ?_, h3⟩
    rcases List.mem_cons.1 hx with rfl | hx
    · exact key.1
    · exact h2 x hx
theorem dF_spec {un : List (Nat × Nat)} : ∀ {l : List IOper} {i : Nat} {h : List Came} {K : Env → Mem → Prop} {e : Env} {S : Mem}, dF q P un i h l K e S → dWp P un i h l K e S
  | [], i, hh, K, e, S, h => h
  | o :: os, i, hh, K, e, S, h => by
    rw [dF_cons] at h
    simp only [dWp]
    split at h
    · rename_i hg
      rw [hg]
      split at h
      · rename_i hd
        have h9 := nfA_iff h
        obtain ⟨r, S', h1, h2⟩ := actFD_spec h9
        have hdr : (match o.act.dropped with | some d => locGet S.loc d = none | none => True) := by
          revert hd
          cases o.act.dropped with
          | none => intro _; trivial
          | some d => intro hd; simpa using hd
        split at h2
        · refine ⟨r, S', ⟨hdr, h1⟩, fun x hx hc => by simp at hc, ?_⟩
          have := dF_spec (un := []) (putF_iff (K := fun e => dF q P [] (i + 1) [] os K e S') h2)
          have any : ∀ {l : List IOper} {i : Nat} {h h' : List Came} {K : Env → Mem → Prop} {e : Env} {S : Mem}, dWp P [] i h l K e S → dWp P [] i h' l K e S := by
            intro l
            induction l with
            | nil => intro i h h' K e S hh; exact hh
            | cons o os ih =>
              intro i h h' K e S hh
              simp only [dWp] at hh ⊢
              split at hh
              · rename_i hg
                obtain ⟨r, S', a, b, c⟩ := hh
                exact ⟨r, S', a, fun x hx hc => by simp at hc, ih c⟩
              · exact ih hh
              · exact hh
          exact any this
        · exact (let ⟨k1, k2⟩ := stabF_spec h2; ⟨r, S', ⟨hdr, h1⟩, k1, dF_spec (putF_iff (K := fun e' => dF q P un (i + 1) (⟨i, o.act, o.args.map (·.ev e), r, S⟩ :: hh) os K e' S') k2)⟩)
      · exact h.elim
    · rename_i hg
      rw [hg]
      exact dF_spec (putF_iff (K := fun e => dF q P un (i + 1) hh os K e S) h)
    · exact h.elim
theorem opsWp_mono : ∀ {l : List IOper} {K K' : Env → Mem → Prop} {e : Env} {S : Mem}, (∀ e S, K e S → K' e S) → opsWp P l K e S → opsWp P l K' e S
  | [], K, K', e, S, hk, h => hk e S h
  | o :: os, K, K', e, S, hk, h => by
    simp only [opsWp] at h ⊢
    split at h
    · rename_i hg
      exact actWp_mono h fun r S' => opsWp_mono hk
    · rename_i hg
      exact opsWp_mono hk h
    · exact h.elim
theorem dWp_mono {un : List (Nat × Nat)} : ∀ {l : List IOper} {i : Nat} {hh : List Came} {K K' : Env → Mem → Prop} {e : Env} {S : Mem}, (∀ e S, K e S → K' e S) → dWp P un i hh l K e S → dWp P un i hh l K' e S
  | [], i, hh, K, K', e, S, hk, h => hk e S h
  | o :: os, i, hh, K, K', e, S, hk, h => by
    simp only [dWp] at h ⊢
    split at h
    · rename_i hg
      obtain ⟨r, S', a, b, c⟩ := h
      exact ⟨r, S', a, b, dWp_mono hk c⟩
    · rename_i hg
      exact dWp_mono hk h
    · exact h.elim
theorem irWp_mono : ∀ {ir : IR} {Q Q' : Ex → Env → Mem → Prop} {e : Env} {S : Mem}, (∀ x e S, Q x e S → Q' x e S) → irWp P ir Q e S → irWp P ir Q' e S := by
  intro ir
  induction ir with
  | skip => intro Q Q' e S hq h; exact hq _ _ _ h
  | ops l k => intro Q Q' e S hq h; exact opsWp_mono (fun e S h => hq _ _ _ h) h
  | opsD l un k => intro Q Q' e S hq h; exact dWp_mono (fun e S h => hq _ _ _ h) h
  | seq a b iha ihb =>
    intro Q Q' e S hq h
    rw [irWp_seq] at h ⊢
    exact iha (fun x e S h => by cases x <;> first | exact ihb hq h | exact hq _ _ _ h) h
  | cond x a b iha ihb =>
    intro Q Q' e S hq h
    rw [irWp_cond] at h ⊢
    split at h
    · rename_i c hx
      cases c
      · exact ihb hq h
      · exact iha hq h
    · rename_i hx
      obtain ⟨J, h1, h2, h3⟩ := h
      exact ⟨J, h1, h2, fun x e' S' hj => by obtain ⟨e2, k1, k2⟩ := h3 x e' S' hj; exact ⟨e2, k1, hq _ _ _ k2⟩⟩
    · exact h.elim
  | block id c ih =>
    intro Q Q' e S hq h
    rw [irWp_block] at h ⊢
    refine ih (fun x e S h => ?_) h
    cases x with
    | normal => exact hq _ _ _ h
    | exit i =>
      rw [inBlock_exit] at h ⊢
      split
      · rename_i hi; rw [if_pos hi] at h; exact hq _ _ _ h
      · rename_i hi; rw [if_neg hi] at h; exact hq _ _ _ h
    | ret => exact hq _ _ _ h
  | exit id => intro Q Q' e S hq h; exact hq _ _ _ h
  | ret => intro Q Q' e S hq h; exact hq _ _ _ h
  | no => intro Q Q' e S hq h; exact h
  | loop k c ih =>
    intro Q Q' e S hq h
    obtain ⟨I, n, h0, h1⟩ := h
    exact ⟨I, n, h0, fun n e S hI => ih (fun x e S h => by cases x <;> first | exact h | exact hq _ _ _ h) (h1 n e S hI)⟩
theorem irF_spec : ∀ {ir : IR} {Q : Ex → Env → Mem → Prop} {e : Env} {S : Mem}, irF q P ir Q e S → irWp P ir Q e S := by
  intro ir
  induction ir with
  | skip => intro Q e S h; exact h
  | ops l k => intro Q e S h; exact opsWp_mono (fun e S h => keepM_spec (K := fun S => Q .normal (keepE k e) S) (keepF_spec (K := fun e => keepM k S fun S => Q .normal e S) h)) (opsF_spec h)
  | opsD l un k => intro Q e S h; exact dWp_mono (fun e S h => keepM_spec (K := fun S => Q .normal (keepE k e) S) (keepF_spec (K := fun e => keepM k S fun S => Q .normal e S) h)) (dF_spec h)
  | seq a b iha ihb =>
    intro Q e S h
    have h1 := iha (show irF q P a (Ex.then (irF q P b Q) Q) e S from h)
    have : (Ex.then (irF q P b Q) Q) = Ex.then (irF q P b Q) Q := rfl
    show irWp P a (Ex.then (irWp P b Q) Q) e S
    exact irWp_mono (fun x e S hq => by cases x <;> first | exact ihb hq | exact hq) h1
  | cond x a b iha ihb =>
    intro Q e S h
    rw [irF_cond] at h
    rw [irWp_cond]
    split at h
    · rename_i hx; rw [hx]; exact iha h
    · rename_i hx; rw [hx]; exact ihb h
    · rename_i hx; rw [hx]; exact ⟨Q, iha h.1, ihb h.2, fun x e' S' hQ => ⟨e', fun _ => .inl rfl, hQ⟩⟩
    · exact h.elim
  | block id c ih => intro Q e S h; exact ih (show irF q P c (Ex.inBlock id Q) e S from h)
  | exit id => intro Q e S h; exact h
  | ret => intro Q e S h; exact h
  | no => intro Q e S h; exact h
  | loop k c ih =>
    intro Q e S h
    have h : Stop (LoopF P (irF q P c) k Q e S) := h
    obtain ⟨I, n, h0, h1⟩ := h.h.h
    exact ⟨I, n, h0, fun n e S hI => ih (h1 n e S hI)⟩
theorem fnF_spec {f : IFun} {args : List RV} {S : Mem} {Q : RV → Mem → Prop} (h : fnF q P f args S Q) : fnWp P f args S Q := by
  have h1 := irF_spec (show irF q P f.body _ (argEnv args) S from h)
  unfold fnWp
  refine irWp_mono (fun x e S' hq => ?_) h1
  cases x with
  | exit i => exact hq
  | normal =>
    simp only at hq ⊢
    split at hq
    · rename_i r hr
      split at hq
      · rename_i hfc; show (match resA e S' f.res with | some r => _ | none => False); rw [hr]; exact ⟨hfc, (nfV_iff hq).h.h⟩
      · exact hq.elim
    · exact hq.elim
  | ret =>
    simp only at hq ⊢
    split at hq
    · rename_i r hr
      split at hq
      · rename_i hfc; show (match resA e S' f.res with | some r => _ | none => False); rw [hr]; exact ⟨hfc, (nfV_iff hq).h.h⟩
      · exact hq.elim
    · exact hq.elim
/-- A loop whose states are known: what they look like, a number that falls. -/
theorem LoopF.of {σ : Type} {wp : (Ex → Env → Mem → Prop) → Env → Mem → Prop} {k : Option (List Nat)} {Q : Ex → Env → Mem → Prop} {e : Env} {S : Mem} (st : σ → Env × Mem) (μ : σ → Nat) (inv : σ → Prop) (s : σ) (hi : inv s) (h1 : keepE k e = (st s).1) (h2 : keepS k S = (st s).2)
    (hr : ∀ s, inv s → wp (Ex.then (fun e' S' => ∃ s', inv s' ∧ μ s' < μ s ∧ keepE k e' = (st s').1 ∧ keepS k S' = (st s').2) Q) (st s).1 (st s).2) : LoopF P wp k Q e S := by
  refine ⟨⟨fun n e S => ∃ s, inv s ∧ μ s = n ∧ e = (st s).1 ∧ S = (st s).2, μ s, ⟨s, hi, rfl, h1, h2⟩, ?_⟩⟩
  rintro n e S ⟨s, hs, rfl, rfl, rfl⟩
  have heq : (fun (e' : Env) (S' : Mem) => ∃ m, m < μ s ∧ ∃ s', inv s' ∧ μ s' = m ∧ keepE k e' = (st s').1 ∧ keepS k S' = (st s').2) =
      fun e' S' => ∃ s', inv s' ∧ μ s' < μ s ∧ keepE k e' = (st s').1 ∧ keepS k S' = (st s').2 := by
    funext e' S'
    apply propext
    constructor
    · rintro ⟨m, hm, s', h1, rfl, h2⟩; exact ⟨s', h1, hm, h2⟩
    · rintro ⟨s', h1, hm, h2⟩; exact ⟨_, hm, s', h1, rfl, h2⟩
  rw [heq]
  exact hr s hs
/-- A function's contract out of a walk through its code. -/
theorem SC.walk {f : FuncId} {fn : Func} {hn : FHint} {ifn : IFun} {args : List RV} {S : Mem} {Q : RV → Mem → Prop} (hmix : P.follows .mixedOrders = true) (hf : P.funcs[f]? = some fn) (ht : trFn P hn fn = some ifn) (hS : S.loc = [])
    (ha : args.length ≤ ifn.n) (h : fnF q P ifn args S Q) : SC P f args S Q := fn_sound hmix hf ht hS ha (fnF_spec h)
/-- What is appended to a row of one's own. -/
theorem app_own {z ty b e : Nat} {l xs : List PV} {t : Nat} {S : Mem} (hS : S.toks[t]? = some (e, z, ty)) (he : e = l.length) (hu : uni z xs = true) (hne : xs ≠ []) (hlim : (l.length + xs.length) * b ≤ lim) :
    opA (.app z ty b false) [.own l t, .p (.sl xs)] S = some (.own (l ++ xs) t, { S with toks := S.toks.set t (l.length + xs.length, z, ty) }) := by
  have h1 : xs.isEmpty = false := by cases xs <;> simp_all
  simp only [opA, isRs, Bool.or_self, Bool.false_eq_true, if_false, srcOf, Option.bind_some, appA, hu, if_true, hS, he, and_self, h1, hlim]
theorem app_nil {z ty b : Nat} {xs : List PV} {S : Mem} {n : Bool} (hu : uni z xs = true) (hne : xs ≠ []) (hlim : xs.length * b ≤ lim) :
    opA (.app z ty b false) [.nsl n, .p (.sl xs)] S = some (.own xs S.toks.length, { S with toks := S.toks ++ [(xs.length, z, ty)] }) := by
  have h1 : xs.isEmpty = false := by cases xs <;> simp_all
  simp only [opA, isRs, Bool.or_self, Bool.false_eq_true, if_false, srcOf, Option.bind_some, appA, hu, if_true, h1, hlim]
end
end Go.Ag
/- The functions that are run: a table of their abstract code. -/
namespace Go.Ag
open Go
def pures : List Nat := [3, 4, 5, 6, 7, 8, 9, 10, 11, 14, 15, 16, 19, 20, 21, 22, 23, 29, 30, 31, 32, 35, 36, 43, 44, 45, 46, 47, 49, 50, 52, 57, 58, 59, 61, 65, 66, 67, 68, 69, 70, 71, 72, 73, 74, 75, 76, 77, 78, 79, 86, 87, 88, 89, 90, 93, 94, 95, 96, 97, 100, 102, 103, 106, 107, 108, 109, 110, 111, 112, 113, 114, 116, 117, 119, 120, 124, 125, 127, 128, 129, 130, 131, 132, 133, 134, 136, 137, 138, 143, 144, 145, 150, 152, 153, 155, 157, 158, 161, 164, 166, 167, 169, 171, 172, 175, 176, 177, 180, 181, 182, 183, 184, 185, 186, 187, 188, 189, 190, 191, 192, 193, 196, 197, 198, 200, 201, 205, 214, 217, 218, 219, 221, 222, 223, 225, 228, 229, 230, 231, 232, 234, 235, 236, 238, 239, 240, 242, 243, 244, 245, 246, 250, 262, 263, 264, 265, 266, 267, 268, 269, 272, 273, 274, 277, 279, 280, 289, 296, 297, 300, 301, 302, 304, 305, 306, 307, 308, 316, 318, 319, 321, 322]
def assoc : List (Nat × List Nat) → Nat → Option (List Nat)
  | [], _ => none
  | (k, v) :: r, t => match Nat.beq k t with
    | true => some v
    | false => assoc r t
def hn (heap owns mems : List Nat) (reg lp : List (Nat × List Nat)) : FHint := { heap := heap, owns := owns, mems := mems, pure := pures.contains, keepR := assoc reg, keepL := assoc lp }
theorem mix : Go.Proofs.Tryz.prog.follows .mixedOrders = true := by kernel_rfl
noncomputable def tab : BT := (.node 224 (trFn Go.Proofs.Tryz.prog (hn [] [] [] [(0, [0, 1, 4]), (1, [0, 1, 4, 20]), (2, [0, 1, 4, 5]), (3, [0, 1, 4, 5]), (4, [0, 1, 4, 6, 7]), (5, [0, 1, 4, 6, 8, 9]), (6, [0, 1, 4, 8, 9, 10, 11]), (7, [0, 1, 4, 8, 10, 11]), (8, [0, 1, 4, 10, 11]), (9, [0, 1, 4, 10]), (10, [0, 1, 4]), (11, [0, 1, 4]), (12, [0, 4, 12]), (13, [0, 4, 12, 99]), (14, [0, 4, 12, 13]), (15, [0, 4, 12, 13]), (16, [0, 4, 12, 14, 15]), (17, [0, 4, 12, 14]), (18, [0, 4, 12]), (19, [0, 4, 12]), (20, [0, 4, 12, 139]), (21, [0, 4, 12, 16]), (22, [0, 4, 12, 16]), (23, [0, 4, 12]), (24, [0, 4, 12]), (25, [0, 12, 161]), (26, [])] [(1, [0, 1, 4])]) Go.Proofs.Tryz.f224)
 (.node 144 (trFn Go.Proofs.Tryz.prog (hn [] [] [] [(0, [0, 1]), (1, [4])] []) Go.Proofs.Tryz.f144)
 (.node 117 (trFn Go.Proofs.Tryz.prog (hn [] [] [] [(0, [0, 1]), (1, [0, 1, 7, 8]), (2, [0, 1, 7, 8, 9]), (3, [0, 1, 5, 7, 8]), (4, [0, 1, 5, 7, 8, 16]), (5, [4]), (6, [0, 1, 7, 8]), (7, [4])] [(2, [0, 1, 7, 8])]) Go.Proofs.Tryz.f117)
 (.node 70 (trFn Go.Proofs.Tryz.prog (hn [] [] [36, 54] [(0, [0]), (1, [0, 4]), (2, [0, 4, 13]), (3, [2, 3]), (4, [0, 5]), (5, [0, 21]), (6, [2, 3]), (7, [0, 6]), (8, [6, 7]), (9, [6, 7, 25, 26, 27]), (10, [6, 7, 25, 26, 27, 28]), (11, [6, 7, 8, 9, 25, 26, 27]), (12, [6, 7, 8, 9, 25, 26, 27, 32]), (14, [6, 7, 8, 9, 25, 26, 27, 32, 37]), (15, [6, 7, 8, 9, 25, 26, 27, 39]), (13, [6, 7, 25, 26, 27]), (16, [6, 7, 8, 25, 26, 27]), (17, [6, 7, 25, 26, 27, 51]), (18, [6, 7, 25, 26, 27]), (19, [6, 7, 25, 26, 27]), (20, [2, 3])] [(10, [6, 7, 25, 26, 27])]) Go.Proofs.Tryz.f70)
 (.node 65 (trFn Go.Proofs.Tryz.prog (hn [] [] [] [(0, [0, 1, 2]), (1, [6])] []) Go.Proofs.Tryz.f65)
 (.node 63 (trFn Go.Proofs.Tryz.prog (hn [] [] [23] [(0, [0]), (1, [2, 3])] []) Go.Proofs.Tryz.f63)
 (.node 59 (trFn Go.Proofs.Tryz.prog (hn [] [] [] [(0, [0, 1]), (1, [4])] []) Go.Proofs.Tryz.f59)
 (.node 16 (trFn Go.Proofs.Tryz.prog (hn [] [] [] [(0, []), (1, [1, 2]), (2, [1, 2, 3, 4]), (3, [1, 2, 3, 4, 5, 6]), (4, [1, 2, 3, 4, 5, 6, 7, 8]), (5, [0])] []) Go.Proofs.Tryz.f16)
 .leaf .leaf) .leaf) (.node 64 (trFn Go.Proofs.Tryz.prog (hn [] [] [23] [(0, [0]), (1, [2, 3])] []) Go.Proofs.Tryz.f64)
 .leaf .leaf)) (.node 68 (trFn Go.Proofs.Tryz.prog (hn [] [] [] [(0, [0]), (1, [0, 7]), (2, [2]), (3, [8, 9, 10]), (4, [8, 9, 10, 11]), (5, [4, 8, 9, 10]), (6, [4, 8, 9, 10, 17]), (7, [2]), (8, [8, 9, 10, 21]), (9, [2]), (10, [8, 9, 10]), (11, [2])] [(4, [8, 9, 10])]) Go.Proofs.Tryz.f68)
 (.node 67 (trFn Go.Proofs.Tryz.prog (hn [8] [] [] [(0, [0, 1]), (1, [0, 1, 12]), (2, [0, 1, 12, 13]), (4, [0, 1, 15]), (5, [4]), (3, [4]), (6, [0, 1, 5]), (7, [0, 1, 5, 22]), (8, [0, 1, 5, 29]), (9, [0, 1, 5]), (10, [0, 1, 5]), (11, [0, 1, 5, 39, 40, 41]), (12, [0, 1, 5, 39, 40, 41, 42]), (13, [0, 1, 5, 7, 39, 40, 41]), (14, [0, 1, 5, 7, 39, 40, 41, 49]), (15, [0, 1, 5, 7, 39, 40, 41]), (16, [0, 1, 5, 39, 40, 41]), (17, [0, 1, 5, 39, 40, 41]), (18, [0, 1, 5, 8]), (19, [0, 1, 8]), (20, [0, 1, 8]), (21, [1, 8, 63, 64, 65]), (22, [1, 8, 63, 64, 65, 66]), (23, [1, 8, 10, 63, 64, 65]), (24, [1, 8, 10, 63, 64, 65]), (25, [1, 8, 63, 64, 65]), (26, [1, 8, 63, 64, 65]), (27, [4])] [(12, [0, 1, 5, 39, 40, 41]), (22, [1, 8, 63, 64, 65])]) Go.Proofs.Tryz.f67)
 (.node 66 (trFn Go.Proofs.Tryz.prog (hn [] [] [] [(0, [0]), (1, [2])] []) Go.Proofs.Tryz.f66)
 .leaf .leaf) .leaf) (.node 69 (trFn Go.Proofs.Tryz.prog (hn [4] [] [] [(0, [0, 2]), (1, [0, 2, 4]), (2, [0, 2, 4, 6]), (3, [0, 2, 4, 16, 17, 18]), (4, [0, 2, 4, 16, 17, 18, 19]), (5, [0, 2, 4, 8, 16, 17, 18]), (6, [0, 2, 4, 16, 17, 18]), (7, [0, 2, 4, 16, 17, 18]), (8, [2, 4, 27, 28, 29]), (9, [2, 4, 27, 28, 29, 30]), (10, [2, 4, 10, 27, 28, 29]), (11, [2, 4, 27, 28, 29, 35]), (12, [2, 3]), (13, [2, 4, 27, 28, 29]), (14, [2, 3])] [(4, [0, 2, 4, 16, 17, 18]), (9, [2, 4, 27, 28, 29])]) Go.Proofs.Tryz.f69)
 .leaf .leaf))) (.node 76 (trFn Go.Proofs.Tryz.prog (hn [] [] [] [(0, [0]), (1, [2])] []) Go.Proofs.Tryz.f76)
 (.node 73 (trFn Go.Proofs.Tryz.prog (hn [5] [] [] [(0, [0]), (1, [0, 4]), (2, [0, 4, 11]), (3, [2, 3]), (4, [0, 5]), (5, [5, 13, 14, 15]), (6, [5, 13, 14, 15, 16]), (7, [5, 7, 13, 14, 15]), (8, [5, 7, 13, 14, 15]), (9, [5, 7, 13, 14, 15, 40]), (10, [5, 13, 14, 15]), (11, [5, 13, 14, 15]), (12, [5, 13, 14, 15]), (13, [2, 3])] [(6, [5, 13, 14, 15])]) Go.Proofs.Tryz.f73)
 (.node 72 (trFn Go.Proofs.Tryz.prog (hn [] [] [] [(0, [1]), (1, [1, 4]), (2, [1, 4, 13]), (3, [2, 3]), (4, [1, 5, 6]), (5, [1, 5, 6, 22]), (6, [2, 3]), (7, [5, 9]), (8, [5, 9, 31]), (9, [2, 3]), (10, [2, 3])] []) Go.Proofs.Tryz.f72)
 (.node 71 (trFn Go.Proofs.Tryz.prog (hn [] [] [] [(0, [0, 1]), (1, [0, 1, 6]), (2, [0, 1, 6, 16]), (3, [4, 5]), (4, [0, 1, 19]), (5, [4, 5]), (6, [0, 1, 22]), (7, [4, 5]), (8, [0, 1, 7]), (9, [0, 1, 7, 8]), (10, [0, 1, 7, 8, 9]), (11, [0, 7, 8, 9, 28, 29]), (12, [0, 7, 8, 9, 28, 29, 30]), (13, [0, 7, 8, 9, 10, 28, 29]), (14, [0, 7, 8, 9, 10, 28, 29, 31, 32, 33]), (15, [0, 7, 8, 9, 10, 28, 29, 31, 32, 33, 34]), (16, [0, 7, 8, 9, 10, 11, 12, 28, 29, 31, 32, 33]), (17, [0, 7, 8, 9, 10, 11, 28, 29, 31, 32, 33]), (18, [0, 7, 8, 9, 10, 11, 28, 29, 31, 32, 33, 54]), (19, [0, 7, 8, 9, 10, 28, 29, 31, 32, 33]), (20, [0, 7, 8, 9, 10, 28, 29, 31, 32, 33]), (21, [0, 7, 8, 9, 10, 28, 29]), (22, [0, 7, 8, 9, 28, 29]), (23, [0, 7, 8, 9, 28, 29]), (24, [4, 5])] [(12, [0, 7, 8, 9, 28, 29]), (15, [0, 7, 8, 9, 10, 28, 29, 31, 32, 33])]) Go.Proofs.Tryz.f71)
 .leaf .leaf) .leaf) (.node 74 (trFn Go.Proofs.Tryz.prog (hn [] [] [] [(0, [0]), (1, [0, 3]), (2, [0, 3, 10]), (3, [0, 3, 4]), (4, [0, 3, 4, 5]), (5, [0, 3, 4, 5, 14]), (6, [0, 3, 4, 5, 14, 15]), (7, [0, 3, 4, 5, 6, 14]), (8, [0, 3, 4, 5, 6, 14]), (9, [0, 3, 4, 5, 6, 14, 21]), (10, [0, 3, 4, 5, 14]), (11, [0, 3, 4, 5, 14]), (12, [0, 3, 4, 5, 30, 31]), (13, [0, 3, 4, 5, 30, 31, 32]), (14, [0, 3, 4, 5, 7, 30, 31]), (15, [0, 3, 4, 5, 30, 31]), (16, [0, 3, 4, 5, 30, 31]), (17, [0, 3]), (18, [2])] [(2, [0, 3]), (6, [0, 3, 4, 5, 14]), (13, [0, 3, 4, 5, 30, 31])]) Go.Proofs.Tryz.f74)
 .leaf .leaf)) (.node 96 (trFn Go.Proofs.Tryz.prog (hn [] [] [] [(0, [0]), (1, [2])] []) Go.Proofs.Tryz.f96)
 (.node 95 (trFn Go.Proofs.Tryz.prog (hn [] [] [] [(0, [0]), (1, [0, 7]), (2, [2]), (3, [0, 8, 9, 10]), (4, [0, 8, 9, 10, 11]), (5, [0, 3, 4, 8, 9, 10]), (6, [0, 3, 4, 8, 9, 10, 15]), (8, [0, 4, 8, 9, 10, 20]), (10, [0, 8, 9, 10, 34]), (11, [2]), (9, [2]), (7, [2]), (12, [0, 8, 9, 10]), (13, [2])] [(4, [0, 8, 9, 10])]) Go.Proofs.Tryz.f95)
 (.node 79 (trFn Go.Proofs.Tryz.prog (hn [] [] [] [(0, [0, 1]), (1, [0, 1, 5]), (2, [1, 5, 8, 9, 10]), (3, [1, 5, 8, 9, 10, 11]), (4, [1, 5, 7, 8, 9, 10]), (5, [1, 5, 7, 8, 9, 10, 16]), (6, [1, 5, 8, 9, 10]), (7, [1, 5, 8, 9, 10]), (8, [4])] [(3, [1, 5, 8, 9, 10])]) Go.Proofs.Tryz.f79)
 .leaf .leaf) .leaf) (.node 114 (trFn Go.Proofs.Tryz.prog (hn [] [] [] [(0, [0]), (1, [0, 3]), (2, [3, 6, 7, 8]), (3, [3, 6, 7, 8, 9]), (4, [3, 5, 6, 7, 8]), (5, [3, 6, 7, 8]), (6, [3, 6, 7, 8]), (7, [2])] [(3, [3, 6, 7, 8])]) Go.Proofs.Tryz.f114)
 .leaf .leaf)))) (.node 129 (trFn Go.Proofs.Tryz.prog (hn [] [] [] [(0, [0, 1]), (1, [4])] []) Go.Proofs.Tryz.f129)
 (.node 124 (trFn Go.Proofs.Tryz.prog (hn [] [] [] [(0, [0]), (1, [0, 5, 6]), (2, [0, 5, 6, 7]), (3, [0, 3, 5, 6]), (4, [0, 5, 6, 13]), (5, [2]), (6, [0, 5, 6]), (7, [2])] [(2, [0, 5, 6])]) Go.Proofs.Tryz.f124)
 (.node 122 (trFn Go.Proofs.Tryz.prog (hn [] [] [] [(0, [0, 1]), (1, [0, 1]), (2, [1]), (3, [4, 5])] []) Go.Proofs.Tryz.f122)
 (.node 121 (trFn Go.Proofs.Tryz.prog (hn [] [] [] [(0, [0, 1]), (1, [0, 1, 7]), (2, [0, 1]), (3, [0, 1, 21]), (4, [])] []) Go.Proofs.Tryz.f121)
 (.node 120 (trFn Go.Proofs.Tryz.prog (hn [] [] [] [(0, [0]), (1, [2])] []) Go.Proofs.Tryz.f120)
 .leaf .leaf) .leaf) (.node 123 (trFn Go.Proofs.Tryz.prog (hn [] [] [] [(0, [0]), (1, [2])] []) Go.Proofs.Tryz.f123)
 .leaf .leaf)) (.node 127 (trFn Go.Proofs.Tryz.prog (hn [] [] [] [(0, [0]), (1, [19]), (2, [2]), (3, [2])] []) Go.Proofs.Tryz.f127)
 (.node 126 (trFn Go.Proofs.Tryz.prog (hn [] [] [] [(0, [0, 1]), (1, [0, 5, 6, 7]), (2, [0, 5, 7, 8, 9]), (3, [0, 5, 7, 8, 35]), (4, [4]), (5, [0, 5, 7, 8]), (6, [0, 5, 7, 8, 10, 11]), (7, [0, 5, 7, 8, 11, 12]), (8, [0, 5, 7, 8, 11, 12, 47]), (9, [7]), (10, [4]), (11, [5, 7, 8, 10, 13]), (12, [7, 8, 13, 14]), (13, [7, 8, 13, 14, 64]), (14, [4]), (15, [7, 8, 13, 14, 81]), (16, [7]), (17, [4])] []) Go.Proofs.Tryz.f126)
 (.node 125 (trFn Go.Proofs.Tryz.prog (hn [] [] [] [(0, [0]), (1, [0, 3]), (2, [3, 8, 9, 10]), (3, [3, 8, 9, 10, 11]), (4, [3, 5, 8, 9, 10]), (5, [3, 8, 9, 10, 15, 16, 17]), (6, [3, 8, 9, 10, 15, 16, 17, 18]), (7, [3, 7, 8, 9, 10, 15, 16, 17]), (8, [3, 7, 8, 9, 10, 15, 16, 17]), (9, [3, 7, 8, 9, 10, 15, 16, 17, 24]), (10, [3, 8, 9, 10, 15, 16, 17]), (11, [3, 8, 9, 10, 15, 16, 17]), (12, [3, 8, 9, 10]), (13, [2])] [(3, [3, 8, 9, 10]), (6, [3, 8, 9, 10, 15, 16, 17])]) Go.Proofs.Tryz.f125)
 .leaf .leaf) .leaf) (.node 128 (trFn Go.Proofs.Tryz.prog (hn [4] [] [] [(0, [0]), (1, [0, 4]), (2, [0, 4, 5]), (3, [0, 4, 5, 10]), (5, [0, 4, 5, 16]), (6, [0, 4, 5]), (7, [0, 4, 5, 24]), (8, [2, 3]), (9, [0, 4, 5, 6]), (10, [0, 4, 5, 6, 29]), (12, [0, 4, 5]), (11, [0, 4, 5]), (13, [0, 4, 5]), (4, [0, 4, 5]), (14, [2, 3])] [(3, [0, 4, 5])]) Go.Proofs.Tryz.f128)
 .leaf .leaf))) (.node 134 (trFn Go.Proofs.Tryz.prog (hn [] [] [] [(0, []), (1, [0])] []) Go.Proofs.Tryz.f134)
 (.node 132 (trFn Go.Proofs.Tryz.prog (hn [] [] [] [(0, [1]), (1, [1, 3]), (3, [1, 6]), (5, [1, 13]), (6, [2]), (4, [2]), (2, [2]), (7, [2])] []) Go.Proofs.Tryz.f132)
 (.node 131 (trFn Go.Proofs.Tryz.prog (hn [] [] [] [(0, [1]), (1, [5]), (2, [5, 12, 13, 14]), (3, [5, 12, 13, 14, 15]), (4, [5, 6, 7, 12, 13, 14]), (5, [5, 6, 7, 12, 13, 14, 21]), (6, [2, 3, 4]), (7, [5, 12, 13, 14]), (8, [5, 12, 13, 14]), (9, [5, 29]), (10, [2, 3, 4]), (11, [5]), (12, [5, 34]), (13, [2, 3, 4]), (14, [2, 3, 4])] [(3, [5, 12, 13, 14])]) Go.Proofs.Tryz.f131)
 (.node 130 (trFn Go.Proofs.Tryz.prog (hn [] [] [] [(0, [1]), (1, [1, 6]), (2, [2]), (3, [1, 3]), (4, [1, 3, 11]), (5, [2]), (6, [16]), (7, [2]), (8, [2])] []) Go.Proofs.Tryz.f130)
 .leaf .leaf) .leaf) (.node 133 (trFn Go.Proofs.Tryz.prog (hn [] [] [] [(0, [0]), (1, [0, 7]), (2, [2]), (3, [0, 8, 9, 10]), (4, [0, 8, 9, 10, 11]), (5, [0, 3, 4, 8, 9, 10]), (6, [0, 3, 4, 8, 9, 10, 15]), (8, [0, 3, 4, 8, 9, 10, 20]), (10, [0, 3, 4, 8, 9, 10, 31]), (12, [0, 3, 4, 8, 9, 10, 35]), (14, [0, 3, 4, 8, 9, 10, 45]), (16, [0, 8, 9, 10, 54]), (17, [2]), (15, [2]), (13, [2]), (11, [2]), (9, [2]), (7, [2]), (18, [0, 8, 9, 10]), (19, [2])] [(4, [0, 8, 9, 10])]) Go.Proofs.Tryz.f133)
 .leaf .leaf)) (.node 137 (trFn Go.Proofs.Tryz.prog (hn [5] [] [] [(0, [0, 1]), (1, [0, 1, 12]), (2, [4]), (3, [0, 1, 21]), (4, [4]), (5, [0, 1, 5, 6]), (6, [0, 1, 5, 34]), (7, [4]), (8, [4])] []) Go.Proofs.Tryz.f137)
 (.node 136 (trFn Go.Proofs.Tryz.prog (hn [] [] [] [(0, [0, 1, 2]), (1, [0, 1, 2, 9, 10]), (2, [0, 1, 2, 9, 10, 11]), (3, [0, 1, 2, 7, 9, 10]), (4, [0, 1, 2, 9, 10, 24]), (5, [6]), (6, [0, 1, 2, 9, 10]), (7, [6])] [(2, [0, 1, 2, 9, 10])]) Go.Proofs.Tryz.f136)
 (.node 135 (trFn Go.Proofs.Tryz.prog (hn [] [] [] [(0, [0, 1]), (1, [0, 1]), (2, []), (3, [4])] []) Go.Proofs.Tryz.f135)
 .leaf .leaf) .leaf) (.node 138 (trFn Go.Proofs.Tryz.prog (hn [] [] [] [(0, [1, 2]), (1, [4])] []) Go.Proofs.Tryz.f138)
 .leaf .leaf))))) (.node 189 (trFn Go.Proofs.Tryz.prog (hn [] [] [] [(0, [0, 1, 2, 3]), (1, [0, 1, 2, 3, 13]), (2, [8]), (3, [0, 1, 2, 3, 15]), (4, [8]), (5, [0, 1, 2, 3, 20]), (6, [0, 1, 2, 3]), (7, [0, 1, 2, 3]), (8, [0, 1, 2, 3, 9]), (9, [0, 1, 2, 3, 9]), (10, [0, 1, 2, 3, 9, 10]), (11, [0, 1, 2, 3, 9, 10, 36]), (12, [0, 1, 2, 3, 9, 10, 11]), (13, [0, 1, 2, 3, 9, 10, 11, 41]), (14, [0, 1, 2, 3, 9, 10, 11]), (15, [0, 1, 2, 3, 9, 10]), (16, [0, 1, 2, 3, 9, 10]), (17, [9, 10]), (18, [8])] [(11, [0, 1, 2, 3, 9, 10])]) Go.Proofs.Tryz.f189)
 (.node 179 (trFn Go.Proofs.Tryz.prog (hn [] [] [] [(0, [0, 4]), (1, [0, 4]), (2, [])] []) Go.Proofs.Tryz.f179)
 (.node 164 (trFn Go.Proofs.Tryz.prog (hn [] [] [] [(0, [0]), (1, [2]), (2, [2])] []) Go.Proofs.Tryz.f164)
 (.node 155 (trFn Go.Proofs.Tryz.prog (hn [] [] [] [(0, [0]), (1, [0, 3]), (2, [0, 3, 8]), (4, [0, 3, 4]), (5, [0, 3, 40]), (6, [2]), (3, [0, 3]), (7, [2])] [(2, [0, 3])]) Go.Proofs.Tryz.f155)
 (.node 146 (trFn Go.Proofs.Tryz.prog (hn [] [5] [7] [(0, [0]), (1, [0, 4]), (2, [2]), (3, [2])] []) Go.Proofs.Tryz.f146)
 (.node 145 (trFn Go.Proofs.Tryz.prog (hn [] [] [] [(0, [0]), (1, [0]), (2, [0]), (3, [2])] []) Go.Proofs.Tryz.f145)
 .leaf .leaf) .leaf) (.node 158 (trFn Go.Proofs.Tryz.prog (hn [] [] [] [(0, [0, 1]), (1, [4])] []) Go.Proofs.Tryz.f158)
 .leaf .leaf)) (.node 177 (trFn Go.Proofs.Tryz.prog (hn [5] [] [] [(0, [0, 1]), (1, [0, 1, 11]), (2, [0, 17]), (3, [4]), (4, [0, 5]), (5, [0, 5, 6]), (6, [0, 5, 6, 23]), (7, [0, 5, 6]), (8, [0, 5, 6, 7]), (9, [0, 5, 7]), (10, [5, 7, 34]), (11, [5, 7]), (12, [4]), (13, [4]), (14, [9]), (15, [4])] []) Go.Proofs.Tryz.f177)
 (.node 176 (trFn Go.Proofs.Tryz.prog (hn [] [] [] [(0, [0, 1]), (1, [0, 1, 5]), (2, [0, 1, 5, 6]), (3, [0, 1, 6, 11]), (4, [12]), (5, [4]), (6, [4]), (7, [0, 1, 13]), (8, [4]), (9, [0, 1, 16]), (10, [4]), (11, [19]), (12, [4]), (13, [4])] []) Go.Proofs.Tryz.f176)
 (.node 175 (trFn Go.Proofs.Tryz.prog (hn [] [] [] [(0, [0]), (1, [0, 3]), (2, [3, 6, 7, 8]), (3, [3, 6, 7, 8, 9]), (4, [3, 5, 6, 7, 8]), (5, [3, 5, 6, 7, 8, 14]), (6, [2]), (7, [3, 6, 7, 8]), (8, [2])] [(3, [3, 6, 7, 8])]) Go.Proofs.Tryz.f175)
 .leaf .leaf) .leaf) (.node 178 (trFn Go.Proofs.Tryz.prog (hn [] [] [] [(0, [0, 6]), (2, [19]), (1, [])] []) Go.Proofs.Tryz.f178)
 .leaf .leaf))) (.node 184 (trFn Go.Proofs.Tryz.prog (hn [] [] [] [(0, [0, 1]), (1, [4])] []) Go.Proofs.Tryz.f184)
 (.node 182 (trFn Go.Proofs.Tryz.prog (hn [] [] [] [(0, [0]), (1, [4, 5]), (2, [2, 3])] []) Go.Proofs.Tryz.f182)
 (.node 181 (trFn Go.Proofs.Tryz.prog (hn [] [] [] [(0, [0, 1]), (1, [4, 5, 6])] []) Go.Proofs.Tryz.f181)
 (.node 180 (trFn Go.Proofs.Tryz.prog (hn [] [] [] [(0, [0]), (1, [2])] []) Go.Proofs.Tryz.f180)
 .leaf .leaf) .leaf) (.node 183 (trFn Go.Proofs.Tryz.prog (hn [7] [] [] [(0, [0]), (1, [0, 3, 4]), (2, [0, 3, 4, 5]), (3, [0, 3, 4, 5, 14]), (5, [0, 3, 4, 5, 6]), (6, [0, 3, 4, 5, 6, 21]), (7, [0, 3, 4]), (8, [0, 3, 4, 5]), (4, [0, 3, 4, 5]), (9, [0, 4, 31]), (10, [0, 33]), (11, [2]), (12, [0, 7]), (13, [0, 7, 8]), (14, [0, 7, 8]), (15, [0, 7, 8, 9]), (16, [0, 7, 8, 9, 41]), (18, [0, 7, 8, 9, 10]), (19, [0, 7, 8, 9, 10, 52]), (20, [0, 7, 8, 9, 10]), (21, [0, 7, 8, 9, 10, 57]), (22, [0, 7, 9, 10]), (23, [0, 7, 9]), (24, [0, 7, 8, 9]), (17, [0, 7, 8, 9]), (25, [0, 7, 8, 70]), (26, [7]), (27, [2]), (28, [2])] [(3, [0, 3, 4, 5]), (16, [0, 7, 8, 9])]) Go.Proofs.Tryz.f183)
 .leaf .leaf)) (.node 187 (trFn Go.Proofs.Tryz.prog (hn [] [] [] [(0, [0]), (1, [2])] []) Go.Proofs.Tryz.f187)
 (.node 186 (trFn Go.Proofs.Tryz.prog (hn [] [] [] [(0, [0, 1]), (1, [5, 6]), (2, [5, 18]), (3, [4]), (4, [4])] []) Go.Proofs.Tryz.f186)
 (.node 185 (trFn Go.Proofs.Tryz.prog (hn [] [] [] [(0, [0, 1]), (1, [4])] []) Go.Proofs.Tryz.f185)
 .leaf .leaf) .leaf) (.node 188 (trFn Go.Proofs.Tryz.prog (hn [] [] [] [(0, [0]), (1, [2])] []) Go.Proofs.Tryz.f188)
 .leaf .leaf)))) (.node 201 (trFn Go.Proofs.Tryz.prog (hn [] [] [] [(0, [0, 1]), (1, [4])] []) Go.Proofs.Tryz.f201)
 (.node 194 (trFn Go.Proofs.Tryz.prog (hn [] [] [] [(0, [0, 1]), (1, [0, 1, 7]), (2, [0, 1, 12]), (3, [0, 1]), (4, [4])] [(1, [0, 1])]) Go.Proofs.Tryz.f194)
 (.node 192 (trFn Go.Proofs.Tryz.prog (hn [] [] [] [(0, [0, 1]), (1, [0, 1, 16]), (2, [0, 1]), (3, [4])] [(1, [0, 1])]) Go.Proofs.Tryz.f192)
 (.node 191 (trFn Go.Proofs.Tryz.prog (hn [] [] [] [(0, [0, 1]), (1, [0, 1, 13]), (2, [0, 1]), (3, [4])] [(1, [0, 1])]) Go.Proofs.Tryz.f191)
 (.node 190 (trFn Go.Proofs.Tryz.prog (hn [] [] [] [(0, [2, 3]), (1, [4])] []) Go.Proofs.Tryz.f190)
 .leaf .leaf) .leaf) (.node 193 (trFn Go.Proofs.Tryz.prog (hn [] [] [] [(0, [0, 2]), (1, [0, 2, 4]), (2, [0, 2, 4, 9]), (4, [0, 2, 4, 5]), (5, [0, 2, 4, 5, 16]), (6, [2, 3]), (7, [0, 2, 4]), (3, [0, 2, 4]), (8, [2, 3])] [(2, [0, 2, 4])]) Go.Proofs.Tryz.f193)
 .leaf .leaf)) (.node 197 (trFn Go.Proofs.Tryz.prog (hn [] [] [] [(0, [0, 1]), (1, [0, 1, 9]), (2, [0, 1, 5, 6]), (3, [0, 1, 5, 6, 17]), (4, [0, 1, 5, 6]), (5, [0, 1, 6, 26]), (6, [0, 1]), (7, [4])] [(1, [0, 1])]) Go.Proofs.Tryz.f197)
 (.node 196 (trFn Go.Proofs.Tryz.prog (hn [] [] [] [(0, [0, 1]), (1, [0, 1, 9]), (2, [0, 1, 5, 6]), (3, [0, 1, 6, 18]), (4, [0, 1]), (5, [4])] [(1, [0, 1])]) Go.Proofs.Tryz.f196)
 (.node 195 (trFn Go.Proofs.Tryz.prog (hn [] [] [] [(0, [0, 1]), (1, [0, 1, 7]), (2, [0, 1, 15]), (3, [0, 1]), (4, [4])] [(1, [0, 1])]) Go.Proofs.Tryz.f195)
 .leaf .leaf) .leaf) (.node 198 (trFn Go.Proofs.Tryz.prog (hn [] [] [] [(0, [0, 1]), (1, [0, 1, 5]), (2, [0, 1, 5, 6]), (3, [0, 1, 5, 6, 21]), (5, [0, 1, 5, 6, 7]), (6, [0, 1, 5, 6, 7, 8]), (7, [0, 1, 5, 6, 7, 8, 33]), (8, [0, 1, 5, 6, 7, 8, 36]), (9, [0, 1, 5, 6, 7, 8, 39]), (10, [0, 1, 5, 6, 7, 8]), (11, [0, 1, 5, 6, 54]), (12, [4]), (4, [0, 1, 5, 6]), (13, [4]), (14, [0, 1, 5]), (15, [0, 1]), (16, [1, 67]), (17, [1, 67, 68, 69]), (18, [1, 10, 67]), (19, [1, 10, 67, 73]), (20, [4]), (21, [1, 10, 11, 12, 67]), (22, [1, 10, 11, 67]), (23, [1, 10, 11, 67, 84]), (24, [1, 10, 11, 67, 87]), (25, [1, 10, 11, 67]), (26, [1, 10, 11, 67, 91]), (27, [1, 67, 104]), (28, [4]), (29, [1, 10, 11, 13, 67]), (30, [1, 10, 11, 13, 67, 114]), (31, [1, 10, 11, 13, 67]), (32, [1, 67, 119]), (33, [4]), (34, [4])] [(3, [0, 1, 5, 6]), (17, [1, 67]), (30, [1, 10, 11, 13, 67])]) Go.Proofs.Tryz.f198)
 .leaf .leaf))) (.node 218 (trFn Go.Proofs.Tryz.prog (hn [] [] [] [(0, [0, 2]), (1, [0, 2, 4]), (2, [0]), (3, [0, 2]), (4, [0, 2, 8]), (5, [0, 2]), (6, [0, 2]), (7, [0, 2, 14]), (8, [0, 2]), (9, [0, 2]), (10, [2])] []) Go.Proofs.Tryz.f218)
 (.node 205 (trFn Go.Proofs.Tryz.prog (hn [] [] [] [(0, [0, 1]), (1, [4])] []) Go.Proofs.Tryz.f205)
 (.node 203 (trFn Go.Proofs.Tryz.prog (hn [] [] [] [(0, [0]), (1, [0, 8]), (2, [2]), (3, [0, 3]), (4, [0, 3, 13]), (6, [0, 3, 25]), (7, [0, 3, 4]), (8, [0, 3, 4, 5]), (9, [0, 3, 4, 5, 32]), (11, [0, 3, 4, 5, 44]), (12, [0, 3, 4, 5]), (13, [0, 3, 4, 5]), (10, [0, 3, 4, 5]), (14, [0, 3]), (15, [2]), (5, [0, 3]), (16, [2])] [(4, [0, 3]), (9, [0, 3, 4, 5])]) Go.Proofs.Tryz.f203)
 (.node 202 (trFn Go.Proofs.Tryz.prog (hn [] [] [] [(0, [0, 2]), (1, [])] []) Go.Proofs.Tryz.f202)
 .leaf .leaf) .leaf) (.node 217 (trFn Go.Proofs.Tryz.prog (hn [] [] [] [(0, [0, 2]), (1, [0, 2, 4]), (2, [0]), (3, [0, 2]), (4, [0, 2, 8]), (5, [0, 2]), (6, [0, 2]), (7, [2])] []) Go.Proofs.Tryz.f217)
 .leaf .leaf)) (.node 222 (trFn Go.Proofs.Tryz.prog (hn [] [] [] [(0, [0]), (1, [0, 4]), (2, [2]), (3, [2])] []) Go.Proofs.Tryz.f222)
 (.node 221 (trFn Go.Proofs.Tryz.prog (hn [] [] [] [(0, [0]), (1, [2])] []) Go.Proofs.Tryz.f221)
 .leaf .leaf) (.node 223 (trFn Go.Proofs.Tryz.prog (hn [] [] [] [(0, [0]), (1, [0, 3]), (2, [2])] []) Go.Proofs.Tryz.f223)
 .leaf .leaf)))))) (.node 280 (trFn Go.Proofs.Tryz.prog (hn [] [] [] [(0, [0]), (1, [2])] []) Go.Proofs.Tryz.f280)
 (.node 247 (trFn Go.Proofs.Tryz.prog (hn [] [] [] [(0, [0, 1, 2, 3, 8]), (1, [0, 1, 2, 3, 8, 9]), (2, [0, 1, 2, 3, 8, 9, 10]), (3, [0, 1, 2, 3, 8, 9, 10, 23]), (4, []), (5, [0, 1, 2, 3, 8, 9, 10, 29]), (6, []), (7, [0, 1, 2, 3, 8, 9, 10, 35]), (8, [0, 1, 2, 3, 8, 9, 10]), (9, [0, 1, 2, 3, 8, 9, 10]), (10, [0, 1, 2, 3, 8, 9, 10, 11, 12]), (11, [0, 1, 2, 3, 8, 9, 10, 11, 12, 50]), (12, [0, 1, 2, 3, 8, 9, 10, 11]), (13, [0, 1, 2, 3, 8, 9, 10, 11]), (14, [0, 1, 2, 3, 8, 9, 10, 11, 12]), (15, [0, 1, 2, 3, 8, 9, 10, 11, 68]), (16, [0, 1, 2, 3, 8, 9, 10, 11, 72]), (17, [0, 1, 2, 3, 8, 9, 10, 11, 87]), (18, [0, 2, 3, 8, 9, 13]), (19, [0, 1, 2, 3, 8, 9]), (20, [0, 1, 2, 3, 10, 14, 15]), (21, [0, 1, 2, 3, 9, 10, 14]), (22, [0, 1, 2, 3, 9, 10, 14, 16, 17]), (23, [0, 1, 2, 3, 9, 14, 16, 17, 18]), (24, [0, 1, 2, 3, 9, 14, 16, 17, 18, 113]), (28, [0, 1, 2, 3, 8, 9, 14]), (29, [0, 1, 3, 8, 9, 14]), (30, [0, 1, 2, 3, 8, 9]), (25, [0, 1, 2, 3, 8, 9, 14]), (26, [0, 2, 3, 8, 9, 14]), (27, [0, 1, 2, 3, 8, 9])] [(2, [0, 1, 2, 3, 8, 9])]) Go.Proofs.Tryz.f247)
 (.node 236 (trFn Go.Proofs.Tryz.prog (hn [] [] [] [(0, [0]), (1, [2])] []) Go.Proofs.Tryz.f236)
 (.node 231 (trFn Go.Proofs.Tryz.prog (hn [] [] [] [(0, [0, 1]), (1, [0, 1, 7]), (2, [0, 1, 7, 12]), (3, [4, 5, 6]), (4, [4, 5, 6])] []) Go.Proofs.Tryz.f231)
 (.node 229 (trFn Go.Proofs.Tryz.prog (hn [] [] [] [(0, [0]), (1, [2])] []) Go.Proofs.Tryz.f229)
 (.node 228 (trFn Go.Proofs.Tryz.prog (hn [] [] [] [(0, [0]), (1, [2])] []) Go.Proofs.Tryz.f228)
 (.node 225 (trFn Go.Proofs.Tryz.prog (hn [12] [] [] [(0, [0, 1, 2, 3, 4, 10, 11]), (1, [0, 1, 2, 3, 4, 10, 11, 28]), (2, [0, 1, 2, 3, 4, 10, 11]), (3, [0, 1, 2, 3, 4, 10, 11, 12]), (4, [0, 1, 2, 3, 4, 10, 11, 12, 13]), (5, [0, 1, 2, 3, 4, 10, 11, 12, 13, 30]), (6, [0, 1, 2, 3, 4, 10, 11, 12, 13]), (7, [0, 1, 2, 3, 4, 10, 11, 12, 13, 34]), (17, [0, 1, 3, 4, 10, 11, 12, 13, 17]), (18, [0, 1, 3, 4, 10, 11, 12, 13, 17, 68]), (19, [0, 1, 3, 4, 10, 11, 12, 13, 17]), (20, [0, 1, 3, 4, 10, 11, 12, 13, 17, 18]), (21, [0, 3, 4, 10, 11, 12, 13, 17, 18]), (22, [0, 1, 3, 4, 10, 11, 12, 13, 17]), (23, [0, 1, 3, 4, 10, 11, 12, 13]), (24, [0, 3, 4, 10, 11, 12, 13]), (8, [0, 1, 2, 3, 4, 10, 11, 12, 13, 14]), (9, [0, 1, 2, 3, 4, 10, 11, 12, 13, 14, 15]), (10, [0, 1, 3, 4, 10, 11, 12, 13, 14, 15, 16]), (11, [0, 1, 3, 4, 10, 11, 12, 13, 14, 15, 16, 46]), (12, [0, 1, 3, 4, 10, 11, 12, 13, 14, 15, 16]), (13, [0, 1, 3, 4, 10, 11, 12, 13, 14, 15, 16]), (14, [0, 1, 3, 4, 10, 11, 12, 13, 14, 15, 16]), (15, [0, 1, 3, 4, 10, 11, 12, 13]), (16, [0, 3, 4, 10, 11, 12, 13]), (25, [0, 4, 10, 11, 12, 13, 89]), (26, [0, 4, 10, 11, 12, 13]), (27, [0, 4, 10, 11, 12, 13]), (28, [0, 10, 11, 12, 13, 94]), (29, [10, 11]), (30, [10, 11])] [(18, [0, 1, 3, 4, 10, 11, 12, 13, 17]), (11, [0, 1, 3, 4, 10, 11, 12, 13, 14, 15, 16])]) Go.Proofs.Tryz.f225)
 .leaf .leaf) .leaf) (.node 230 (trFn Go.Proofs.Tryz.prog (hn [] [] [] [(0, [0, 1]), (1, [4])] []) Go.Proofs.Tryz.f230)
 .leaf .leaf)) (.node 234 (trFn Go.Proofs.Tryz.prog (hn [] [] [] [(0, [0]), (1, [0, 4]), (2, [0, 10]), (3, [0]), (4, [2]), (5, [2])] []) Go.Proofs.Tryz.f234)
 (.node 233 (trFn Go.Proofs.Tryz.prog (hn [5] [] [] [(0, [0, 1]), (1, [0, 1, 5]), (2, [0, 1, 5, 14]), (3, [0, 1, 5, 14, 15, 16]), (4, [0, 1, 5, 6, 7, 14]), (5, [0, 1, 5, 6, 7, 8, 14]), (6, [0, 1, 5, 6, 7, 8, 14, 28]), (7, [0, 1, 5, 6, 7, 8, 14]), (8, [0, 1, 5, 6, 7, 8, 14, 30]), (11, [0, 1, 5, 6, 8, 9]), (9, [0, 1, 5, 6, 7, 8, 9, 14]), (10, [0, 1, 5, 6, 8, 9, 14, 44]), (12, [0, 1, 5, 6, 8, 9]), (13, [0, 1, 5, 6, 8, 9]), (14, [0, 1, 5, 6, 8, 9, 56]), (15, [0, 1, 5, 6, 9]), (16, [0, 1, 5]), (17, [0, 1, 5, 65]), (18, [4]), (19, [0, 5, 68]), (20, [0, 5, 68, 69, 70]), (21, [0, 5, 11, 68]), (22, [0, 5, 12, 68]), (23, [0, 5, 12, 68, 76]), (24, [0, 5, 12, 68, 78]), (26, [0, 5, 68]), (25, [0, 5, 68]), (27, [4])] [(3, [0, 1, 5, 14]), (20, [0, 5, 68])]) Go.Proofs.Tryz.f233)
 (.node 232 (trFn Go.Proofs.Tryz.prog (hn [] [] [] [(0, [0]), (1, [2, 3])] []) Go.Proofs.Tryz.f232)
 .leaf .leaf) .leaf) (.node 235 (trFn Go.Proofs.Tryz.prog (hn [6] [] [] [(0, [0, 1]), (1, [0, 1, 12]), (2, [4]), (3, [0, 1, 15]), (4, [0, 5]), (5, [0, 5, 20]), (6, [0, 5]), (7, [4]), (8, [0, 1, 26]), (9, [0, 1, 6, 7]), (10, [0, 1, 6, 32]), (11, [0, 6, 8]), (12, [0, 6, 8, 36]), (14, [0, 6, 8, 42]), (15, [4]), (13, [0, 6, 8]), (16, [4]), (17, [1, 45]), (18, [1, 45, 46, 47]), (19, [1, 9, 10, 45]), (20, [1, 9, 45, 53]), (21, [4]), (22, [4])] [(12, [0, 6, 8]), (18, [1, 45])]) Go.Proofs.Tryz.f235)
 .leaf .leaf))) (.node 241 (trFn Go.Proofs.Tryz.prog (hn [] [] [] [(0, [0, 1]), (1, [4])] []) Go.Proofs.Tryz.f241)
 (.node 239 (trFn Go.Proofs.Tryz.prog (hn [] [] [] [(0, [0, 1]), (1, [0, 1, 9]), (2, [4]), (3, [0, 1, 15]), (4, [4]), (5, [0, 1, 5]), (6, [0, 1, 5, 6]), (7, [0, 1, 5, 6, 24]), (8, [4]), (9, [0, 1, 5, 6]), (10, [0, 1, 5])] [(6, [0, 1, 5])]) Go.Proofs.Tryz.f239)
 (.node 238 (trFn Go.Proofs.Tryz.prog (hn [] [] [] [(0, [0, 1]), (1, [0, 1, 5]), (2, [0, 1, 5, 18]), (3, [0, 1]), (4, [0, 1, 6]), (5, [0, 1, 6, 7]), (6, [0, 1, 6, 7, 25]), (8, [0, 1, 6, 7, 9]), (9, [0, 1, 6, 7, 9]), (10, [0, 1, 6, 7]), (7, [0, 1, 6, 7]), (11, [0, 1, 6, 43]), (12, [6]), (13, [4])] [(6, [0, 1, 6, 7])]) Go.Proofs.Tryz.f238)
 (.node 237 (trFn Go.Proofs.Tryz.prog (hn [] [] [] [(0, [0, 1, 2]), (1, [0, 1, 2, 8, 9]), (2, [0, 1, 2, 8, 9, 18]), (3, [6, 7]), (4, [6, 7])] []) Go.Proofs.Tryz.f237)
 .leaf .leaf) .leaf) (.node 240 (trFn Go.Proofs.Tryz.prog (hn [] [] [] [(0, [0, 1]), (1, [4])] []) Go.Proofs.Tryz.f240)
 .leaf .leaf)) (.node 244 (trFn Go.Proofs.Tryz.prog (hn [] [] [] [(0, [0]), (1, [0, 4]), (2, [0, 4, 10]), (3, [2, 3]), (4, [0, 4, 5]), (5, [0, 2, 4, 5]), (6, [0, 2, 4, 5, 18]), (7, [2, 3]), (8, [0, 4, 5, 6]), (9, [0, 4, 5, 6]), (10, [0, 4, 5, 6, 27]), (12, [0, 4, 5, 6, 33]), (11, [0, 4, 5, 6]), (13, [0, 4, 5, 35]), (14, [0, 4, 5]), (15, [2, 3, 4, 5]), (16, [2, 3, 48]), (17, [2, 3]), (18, [2, 3])] [(10, [0, 4, 5, 6])]) Go.Proofs.Tryz.f244)
 (.node 243 (trFn Go.Proofs.Tryz.prog (hn [] [] [] [(0, [0, 1]), (1, [4])] []) Go.Proofs.Tryz.f243)
 (.node 242 (trFn Go.Proofs.Tryz.prog (hn [] [] [] [(0, [0]), (1, [0, 10]), (3, [2, 3]), (2, [2, 3])] []) Go.Proofs.Tryz.f242)
 .leaf .leaf) .leaf) (.node 245 (trFn Go.Proofs.Tryz.prog (hn [] [] [] [(0, [0]), (1, [0, 13]), (2, [2]), (3, [0, 17]), (4, [2]), (5, [0, 3]), (6, [0, 3, 4]), (7, [0, 3, 4, 26]), (8, [0, 3, 4, 5]), (9, [0, 3, 4, 5, 40]), (11, [0, 3, 4]), (10, [0, 3, 4]), (12, [0, 3, 57]), (13, [2]), (14, [0, 6]), (15, [0, 6, 68]), (16, [0, 6, 7]), (17, [0, 6, 7, 74]), (18, [2]), (19, [2]), (20, [2])] [(7, [0, 3, 4])]) Go.Proofs.Tryz.f245)
 .leaf .leaf)))) (.node 269 (trFn Go.Proofs.Tryz.prog (hn [] [] [] [(0, [0]), (1, [0, 3]), (3, [0, 6]), (5, [0, 9]), (7, [0, 12]), (9, [0, 19]), (11, [22]), (12, [2]), (10, [2]), (8, [2]), (6, [2]), (4, [2]), (2, [2]), (13, [2])] []) Go.Proofs.Tryz.f269)
 (.node 264 (trFn Go.Proofs.Tryz.prog (hn [] [] [] [(0, [0]), (1, [2])] []) Go.Proofs.Tryz.f264)
 (.node 262 (trFn Go.Proofs.Tryz.prog (hn [] [] [] [(0, [0]), (1, [2])] []) Go.Proofs.Tryz.f262)
 (.node 251 (trFn Go.Proofs.Tryz.prog (hn [] [] [] [(0, [0]), (1, [0]), (2, [0]), (3, [0]), (4, [2])] []) Go.Proofs.Tryz.f251)
 (.node 250 (trFn Go.Proofs.Tryz.prog (hn [] [] [] [(0, [0]), (1, [2])] []) Go.Proofs.Tryz.f250)
 .leaf .leaf) .leaf) (.node 263 (trFn Go.Proofs.Tryz.prog (hn [] [] [] [(0, [0]), (1, [3]), (2, [2]), (3, [2])] []) Go.Proofs.Tryz.f263)
 .leaf .leaf)) (.node 267 (trFn Go.Proofs.Tryz.prog (hn [] [] [] [(0, [0, 1]), (1, [0, 1, 5]), (2, [0, 1, 5, 16]), (4, [0, 1, 5, 24]), (6, [0, 1, 5, 31]), (8, [0, 1, 5, 36]), (9, [4]), (7, [4]), (5, [4]), (3, [4]), (10, [0, 1, 5, 6]), (11, [0, 1, 5, 6, 7]), (12, [0, 1, 5, 6, 7, 8]), (13, [0, 1, 5, 6, 7, 8, 9]), (14, [0, 1, 5, 6, 7, 8, 9, 10]), (15, [0, 1, 5, 6, 7, 8, 9, 10, 59]), (16, [0, 1, 5, 6, 7, 8, 9, 10, 64]), (17, [0, 1, 5, 6, 7, 8, 9, 10, 11]), (18, [0, 1, 5, 6, 7, 8, 9, 10, 11, 73]), (19, [4]), (20, [0, 1, 5, 6, 7, 8, 9, 10]), (21, [0, 1, 5, 6, 7, 8, 9, 10, 93]), (22, [4]), (23, [0, 1, 5, 6, 7, 8, 9, 10]), (24, [0, 1, 5, 6, 7, 8, 9, 10]), (25, [0, 1, 5, 6, 7, 8, 9, 10, 107]), (30, [0, 1, 5, 6, 7, 8, 9, 10, 132]), (31, [8, 13]), (32, [8, 13, 139]), (33, [4]), (34, [4]), (26, [8, 12]), (27, [8, 12, 114]), (28, [4]), (29, [4]), (35, [4])] [(15, [0, 1, 5, 6, 7, 8, 9, 10])]) Go.Proofs.Tryz.f267)
 (.node 266 (trFn Go.Proofs.Tryz.prog (hn [] [] [] [(0, [0, 1]), (1, [4])] []) Go.Proofs.Tryz.f266)
 (.node 265 (trFn Go.Proofs.Tryz.prog (hn [] [] [] [(0, [0]), (1, [2]), (2, [2])] []) Go.Proofs.Tryz.f265)
 .leaf .leaf) .leaf) (.node 268 (trFn Go.Proofs.Tryz.prog (hn [] [] [] [(0, [0, 1]), (1, [0, 1, 6]), (2, [0, 6, 28]), (3, [4, 5]), (4, [0, 6, 7]), (5, [0, 6, 7, 32]), (7, [0, 6, 7, 44]), (8, [4, 5]), (6, [0, 6, 7]), (9, [8, 9]), (10, [4, 5])] [(5, [0, 6, 7])]) Go.Proofs.Tryz.f268)
 .leaf .leaf))) (.node 274 (trFn Go.Proofs.Tryz.prog (hn [] [] [] [(0, [0]), (1, [2])] []) Go.Proofs.Tryz.f274)
 (.node 272 (trFn Go.Proofs.Tryz.prog (hn [] [] [] [(0, [0, 1]), (1, [1]), (2, [4])] []) Go.Proofs.Tryz.f272)
 (.node 271 (trFn Go.Proofs.Tryz.prog (hn [] [] [] [(0, [0]), (1, [2])] []) Go.Proofs.Tryz.f271)
 (.node 270 (trFn Go.Proofs.Tryz.prog (hn [] [] [] [(0, [0, 1]), (1, [0, 1]), (2, [0, 1, 6]), (3, [0, 6]), (4, [4, 5])] []) Go.Proofs.Tryz.f270)
 .leaf .leaf) .leaf) (.node 273 (trFn Go.Proofs.Tryz.prog (hn [] [] [] [(0, [0, 1]), (34, [0, 1, 160]), (36, [0, 1, 171]), (43, [0, 1, 183]), (1, [0, 7]), (2, [0, 7, 8]), (3, [0, 7, 8, 9]), (4, [0, 7, 8, 9]), (5, [0, 7, 8, 9, 26]), (6, [0, 7, 8, 9, 33]), (7, [0, 7, 8, 9, 11]), (8, [0, 7, 8, 9, 11, 43]), (9, [4]), (10, [0, 7, 8, 9]), (11, [0, 7, 8, 9, 12]), (12, [0, 7, 8, 9, 12, 51]), (14, [0, 7, 8, 9, 12, 64]), (13, [0, 7, 8, 9, 12]), (15, [4]), (16, [0, 7, 8, 9, 10]), (17, [0, 7, 8, 9, 10]), (18, [0, 7, 8, 9, 98]), (19, [4]), (23, [0, 7, 8, 9, 14]), (24, [0, 7, 8, 9, 14, 15]), (25, [0, 7, 8, 9, 14, 15, 124]), (27, [0, 7, 8, 9, 14, 15, 139]), (28, [0, 7, 8, 9, 14, 15, 16]), (29, [0, 7, 8, 9, 14, 15, 16, 143]), (31, [0, 7, 8, 9, 14, 15, 16, 156]), (30, [0, 7, 8, 9, 14, 15, 16]), (32, [4]), (26, [0, 7, 8, 9, 14, 15]), (20, [8, 9, 13]), (21, [8, 9, 13, 108]), (22, [4]), (33, [4]), (44, [4]), (37, [175]), (38, [175, 176, 177]), (39, [5, 6, 175]), (40, [5, 175, 181]), (41, [4]), (42, [4]), (35, [4])] [(5, [0, 7, 8, 9]), (12, [0, 7, 8, 9, 12]), (25, [0, 7, 8, 9, 14, 15]), (29, [0, 7, 8, 9, 14, 15, 16]), (38, [175])]) Go.Proofs.Tryz.f273)
 .leaf .leaf)) (.node 277 (trFn Go.Proofs.Tryz.prog (hn [] [] [] [(0, [0, 2]), (1, [2, 4]), (2, [2, 4, 6]), (3, [2, 4]), (4, [2])] [(2, [2, 4])]) Go.Proofs.Tryz.f277)
 (.node 276 (trFn Go.Proofs.Tryz.prog (hn [] [] [] [(0, [0, 1, 2, 3, 4]), (1, [0, 1, 2, 3, 4, 11]), (2, [0, 1, 2, 3, 4, 11, 12]), (4, [0, 1, 2, 3, 4, 11, 19]), (6, [0, 1, 2, 3, 4, 11, 26]), (8, [0, 1, 3, 4, 34]), (9, [10]), (7, [10]), (5, [10]), (3, [10]), (10, [10])] []) Go.Proofs.Tryz.f276)
 (.node 275 (trFn Go.Proofs.Tryz.prog (hn [] [] [] [(0, [0, 1, 2]), (1, [0, 1, 2, 19]), (2, [6, 7]), (3, [0, 1, 2, 8]), (4, [0, 1, 2, 8, 9]), (6, [0, 1, 2, 8, 9, 25]), (7, [0, 2, 8, 9, 32]), (5, [6, 7]), (8, [0, 1, 2, 8, 9]), (9, [0, 1, 2, 8, 9, 37]), (12, [0, 2, 8, 9, 40]), (15, [0, 2, 8, 9, 52]), (18, [0, 2, 8, 9, 64]), (10, [0, 1, 2, 8, 9]), (11, [0, 1, 2, 8, 9]), (19, [0, 1, 2, 8, 9]), (20, [0, 1, 2, 8, 9]), (16, [0, 1, 2, 8, 9]), (17, [0, 1, 2, 8, 9]), (13, [0, 1, 2, 8, 9]), (14, [0, 1, 2, 8, 9]), (21, [0, 1, 2, 8, 9, 77]), (23, [0, 1, 2, 8, 9, 83]), (24, [6, 7]), (22, [0, 1, 2, 8, 9]), (25, [0, 1, 2, 8, 9]), (26, [0, 1, 2, 8, 9, 85]), (28, [0, 1, 2, 8, 9, 85, 90]), (30, [0, 1, 2, 8, 9, 92]), (27, [0, 1, 2, 8, 9, 10]), (31, [0, 1, 2, 8, 9, 10]), (29, [0, 1, 2, 8, 9, 10]), (32, [0, 1, 8, 9, 10, 11]), (33, [0, 1, 8, 9, 10, 11, 12]), (34, [0, 1, 8, 9, 10, 11, 12, 13]), (35, [1, 8, 9, 10, 11, 12, 13, 99, 100, 101]), (36, [1, 8, 9, 10, 11, 12, 13, 99, 100, 101, 102]), (37, [1, 8, 9, 10, 11, 12, 13, 15, 99, 100, 101]), (38, [1, 8, 9, 10, 11, 12, 13, 15, 99, 100, 101]), (40, [1, 8, 9, 10, 11, 12, 13, 15, 99, 100, 101, 106]), (42, [1, 8, 9, 10, 11, 12, 13, 15, 99, 100, 101, 112]), (44, [1, 8, 9, 10, 11, 12, 13, 15, 99, 100, 101, 121]), (39, [6, 7]), (45, [1, 8, 9, 10, 11, 12, 13, 16, 99, 100, 101]), (43, [1, 8, 9, 10, 11, 12, 13, 16, 99, 100, 101]), (41, [1, 8, 9, 10, 11, 12, 13, 99, 100, 101]), (46, [1, 8, 9, 10, 11, 12, 13, 16, 99, 100, 101, 137]), (47, [6, 7]), (48, [1, 8, 9, 10, 11, 12, 13, 16, 99, 100, 101, 141]), (49, [6, 7]), (50, [1, 8, 9, 10, 11, 12, 13, 16, 99, 100, 101]), (51, [1, 8, 9, 10, 11, 12, 13, 17, 99, 100, 101]), (52, [1, 8, 9, 10, 11, 12, 17, 99, 100, 101, 159]), (53, [6, 7]), (54, [1, 8, 9, 10, 11, 12, 13, 99, 100, 101]), (55, [1, 8, 9, 10, 11, 12, 13, 99, 100, 101]), (56, [13, 169]), (57, [6, 7]), (58, [6, 7])] [(36, [1, 8, 9, 10, 11, 12, 13, 99, 100, 101])]) Go.Proofs.Tryz.f275)
 .leaf .leaf) .leaf) (.node 279 (trFn Go.Proofs.Tryz.prog (hn [] [] [] [(0, [0]), (1, [0, 4]), (2, [0, 4, 16]), (3, [2, 3]), (4, [0, 4, 5]), (5, [0, 4, 5, 6]), (6, [0, 4, 5, 6, 23]), (7, [0, 7]), (8, [2, 3]), (9, [0, 4, 5, 6, 8]), (10, [0, 4, 5, 8, 9]), (11, [0, 5, 8, 9, 45]), (12, [2, 3]), (13, [0, 5, 8, 9, 10]), (14, [0, 5, 8, 10, 57]), (15, [2, 3]), (16, [0, 5, 8, 10, 59]), (17, [2, 3]), (18, [0, 5, 8, 10, 11]), (19, [0, 5, 8, 10, 11, 75]), (20, [2, 3]), (21, [0, 5, 10, 11, 77]), (22, [2, 3]), (23, [5, 10, 11, 12]), (24, [5, 10, 11, 12, 98]), (25, [2, 3]), (26, [2, 3])] []) Go.Proofs.Tryz.f279)
 .leaf .leaf))))) (.node 306 (trFn Go.Proofs.Tryz.prog (hn [] [] [] [(0, [0]), (1, [0, 3]), (3, [10]), (4, [2]), (2, [2]), (5, [2])] []) Go.Proofs.Tryz.f306)
 (.node 290 (trFn Go.Proofs.Tryz.prog (hn [] [] [] [(0, [0, 1, 2, 3]), (1, [0, 1, 2]), (2, [0, 1, 9, 10]), (3, [0, 1, 9, 10, 43]), (4, [0, 1, 9, 10]), (5, [0, 1, 9, 10, 59]), (6, [0, 1, 9, 10]), (7, [0, 1, 9, 10, 64]), (8, [0, 1, 9, 10]), (9, [0, 1, 9, 10]), (10, [0, 1, 9, 10]), (11, [8])] [(3, [0, 1, 9, 10]), (5, [0, 1, 9, 10])]) Go.Proofs.Tryz.f290)
 (.node 285 (trFn Go.Proofs.Tryz.prog (hn [7] [] [] [(0, [0, 1, 6]), (1, [0, 1, 6, 15]), (2, [0, 1, 6, 7]), (3, [0, 1, 6, 7, 8]), (4, [0, 1, 6, 7, 8, 9]), (5, [0, 1, 6, 7, 8, 9, 33]), (7, [0, 1, 6, 7, 8, 9, 10]), (8, [0, 1, 6, 7, 8, 9, 10, 43]), (9, [0, 1, 6, 7, 8, 9, 10]), (10, [0, 1, 6, 7, 8, 9]), (6, [0, 1, 6, 7, 8, 9])] [(5, [0, 1, 6, 7, 8, 9])]) Go.Proofs.Tryz.f285)
 (.node 283 (trFn Go.Proofs.Tryz.prog (hn [] [] [] [(0, [0, 1, 2, 6]), (1, [0, 1, 2, 6, 12]), (3, [0, 1, 2, 6, 7]), (4, [0, 1, 2, 6, 7, 30]), (6, [0, 1, 2, 6, 7]), (5, [0, 1, 2, 6, 7]), (2, [0, 1, 2, 6])] [(1, [0, 1, 2, 6]), (4, [0, 1, 2, 6, 7])]) Go.Proofs.Tryz.f283)
 (.node 282 (trFn Go.Proofs.Tryz.prog (hn [] [] [] [(0, [0, 1, 2]), (1, [0, 1, 2, 7]), (2, [0, 1, 2, 7, 15]), (3, [6]), (4, [6])] []) Go.Proofs.Tryz.f282)
 (.node 281 (trFn Go.Proofs.Tryz.prog (hn [] [] [] [(0, [0, 1]), (1, [0, 1, 5]), (2, [0, 1, 5, 6]), (3, [0, 1, 5, 6, 13]), (4, [0, 1, 5, 6, 7]), (5, [0, 1, 5, 6, 7, 8]), (6, [0, 1, 5, 6, 7, 8, 38]), (7, [4]), (8, [0, 1, 5, 6, 7, 46]), (10, [0, 1, 5, 6]), (9, [0, 1, 5, 6]), (11, [4])] [(3, [0, 1, 5, 6])]) Go.Proofs.Tryz.f281)
 .leaf .leaf) .leaf) (.node 284 (trFn Go.Proofs.Tryz.prog (hn [] [] [] [(0, [0, 1, 2, 6]), (1, [0, 1, 2, 6, 7]), (2, [0, 6, 7, 8]), (3, [0, 6, 7, 8, 9]), (4, [0, 6, 7, 8, 9, 19]), (6, [0, 6, 7, 8, 9]), (5, [0, 6, 7, 8, 9]), (7, [0, 6, 7, 10]), (8, [0, 6, 7, 10, 30]), (10, [0, 6, 7, 10]), (11, [0, 6, 7, 10]), (9, [0, 6, 7, 10])] [(4, [0, 6, 7, 8, 9]), (8, [0, 6, 7, 10])]) Go.Proofs.Tryz.f284)
 .leaf .leaf)) (.node 288 (trFn Go.Proofs.Tryz.prog (hn [] [] [] [(0, [0, 1, 2]), (1, [0, 1, 2, 7]), (2, [0, 1, 2, 7, 8]), (3, [0, 1, 2, 7, 8, 14]), (5, [0, 1, 2, 7, 8, 32]), (6, [0, 1, 2, 7, 8]), (7, [0, 1, 2, 7, 8, 37]), (8, [6]), (9, [0, 1, 2, 7, 8, 41]), (10, [6]), (11, [0, 1, 2, 7, 8]), (12, [0, 1, 2, 7, 8, 61]), (13, [0, 1, 2, 7, 8, 9]), (14, [0, 1, 2, 7, 8, 9, 65]), (16, [0, 1, 2, 7, 8, 9, 78]), (17, [0, 1, 2, 7, 8, 9]), (15, [0, 1, 2, 7, 8, 9]), (18, [0, 1, 2, 7, 8, 98]), (19, [0, 1, 2, 7, 8, 10]), (20, [0, 1, 2, 7, 8, 10, 103]), (22, [0, 1, 2, 7, 8, 10, 116]), (23, [0, 1, 2, 7, 8, 10]), (21, [0, 1, 2, 7, 8, 10]), (4, [0, 1, 2, 7, 8]), (24, [6])] [(3, [0, 1, 2, 7, 8]), (5, [0, 1, 2, 7, 8]), (14, [0, 1, 2, 7, 8, 9]), (20, [0, 1, 2, 7, 8, 10])]) Go.Proofs.Tryz.f288)
 (.node 287 (trFn Go.Proofs.Tryz.prog (hn [] [] [] [(0, [0, 2, 6]), (1, [0, 6, 7]), (2, [0, 6, 7, 13]), (3, [0, 6, 7]), (4, [0, 6, 7]), (5, [0, 6, 7])] [(2, [0, 6, 7])]) Go.Proofs.Tryz.f287)
 (.node 286 (trFn Go.Proofs.Tryz.prog (hn [9] [] [] [(0, [0, 1, 2]), (1, [0, 1, 8]), (2, [0, 1, 8, 9]), (3, [0, 1, 8, 9, 10]), (4, [0, 1, 8, 9, 10, 11]), (5, [0, 8, 9, 10, 11, 12]), (6, [0, 8, 9, 10, 11, 12, 32]), (7, [0, 9, 10, 11, 12, 34]), (8, [0, 9, 10, 11, 12]), (9, [0, 9, 10, 11, 12]), (10, [0, 9, 10, 11, 12]), (11, [9, 11]), (12, [11, 49]), (14, [11, 49, 51]), (16, [11, 54]), (13, [6, 7]), (17, [6, 7]), (15, [6, 7])] []) Go.Proofs.Tryz.f286)
 .leaf .leaf) .leaf) (.node 289 (trFn Go.Proofs.Tryz.prog (hn [] [] [] [(0, [0, 1]), (1, [4])] []) Go.Proofs.Tryz.f289)
 .leaf .leaf))) (.node 301 (trFn Go.Proofs.Tryz.prog (hn [] [] [] [(0, [0, 1]), (1, [0, 1, 5, 6]), (2, [0, 1, 5, 6, 7]), (3, [0, 1, 5, 6, 7, 8]), (4, [0, 1, 5, 6, 7, 8, 9]), (5, [0, 1, 5, 6, 7, 8, 9, 20]), (7, [0, 1, 5, 6, 7, 8, 9]), (6, [0, 1, 5, 6, 7, 8, 9]), (8, [0, 1, 5, 6, 7, 8, 39]), (9, [4]), (10, [0, 1, 5, 6, 7, 8, 10]), (11, [0, 1, 5, 6, 7, 8, 10, 44]), (12, [0, 1, 5, 6, 7, 8, 10]), (13, [0, 1, 5, 6, 7, 8, 10]), (14, [0, 1, 5, 6, 7, 8, 10]), (15, [0, 1, 5, 6, 7, 8, 10]), (16, [0, 1, 5, 6, 7, 8, 10, 77]), (17, [4]), (18, [4])] [(5, [0, 1, 5, 6, 7, 8, 9]), (11, [0, 1, 5, 6, 7, 8, 10])]) Go.Proofs.Tryz.f301)
 (.node 297 (trFn Go.Proofs.Tryz.prog (hn [] [] [] [(0, [0]), (1, [0, 4]), (2, [2]), (3, [2])] []) Go.Proofs.Tryz.f297)
 (.node 296 (trFn Go.Proofs.Tryz.prog (hn [] [] [] [(0, [0]), (1, [0, 4]), (2, [2]), (3, [2])] []) Go.Proofs.Tryz.f296)
 (.node 291 (trFn Go.Proofs.Tryz.prog (hn [] [] [] [(0, [0, 1, 2, 3]), (1, [0, 1, 2]), (2, [0, 1, 10, 11]), (3, [0, 1, 10, 11, 43]), (4, [0, 1, 10, 11]), (5, [0, 1, 10, 11, 60]), (6, [0, 1, 10, 11]), (7, [0, 1, 10, 11, 65]), (8, [11]), (9, [8, 9]), (10, [0, 1, 10, 11]), (11, [0, 1, 10, 11]), (12, [0, 1, 10, 11]), (13, [0, 1, 10, 11, 112]), (14, [0, 1, 10, 11]), (15, [0, 1, 10, 11, 129]), (16, [0, 1, 10, 11]), (17, [0, 1, 10, 11, 134]), (18, [0, 1, 10, 11]), (19, [0, 1, 10, 11]), (20, [0, 1, 10, 11]), (21, [11]), (22, [8, 9])] [(3, [0, 1, 10, 11]), (5, [0, 1, 10, 11]), (13, [0, 1, 10, 11]), (15, [0, 1, 10, 11])]) Go.Proofs.Tryz.f291)
 .leaf .leaf) .leaf) (.node 300 (trFn Go.Proofs.Tryz.prog (hn [] [] [] [(0, [0]), (1, [2])] []) Go.Proofs.Tryz.f300)
 .leaf .leaf)) (.node 304 (trFn Go.Proofs.Tryz.prog (hn [] [] [] [(0, [0, 1]), (1, [0, 1, 7]), (2, [4]), (3, [4])] []) Go.Proofs.Tryz.f304)
 (.node 303 (trFn Go.Proofs.Tryz.prog (hn [] [] [] [(0, [0]), (1, [0, 4, 5]), (2, [0, 4, 5, 12]), (3, [2, 3]), (4, [2, 3])] []) Go.Proofs.Tryz.f303)
 (.node 302 (trFn Go.Proofs.Tryz.prog (hn [] [] [] [(0, [0, 1]), (1, [4])] []) Go.Proofs.Tryz.f302)
 .leaf .leaf) .leaf) (.node 305 (trFn Go.Proofs.Tryz.prog (hn [] [] [] [(0, [0, 1, 2]), (1, [0, 1, 2, 14]), (2, [6, 7]), (3, [0, 1, 8]), (4, [0, 1, 8, 19]), (5, [6, 7]), (6, [6, 7])] []) Go.Proofs.Tryz.f305)
 .leaf .leaf)))) (.node 316 (trFn Go.Proofs.Tryz.prog (hn [] [] [] [(0, [0]), (1, [2])] []) Go.Proofs.Tryz.f316)
 (.node 311 (trFn Go.Proofs.Tryz.prog (hn [15] [] [] [(0, [0, 1, 2]), (1, [6])] []) Go.Proofs.Tryz.f311)
 (.node 309 (trFn Go.Proofs.Tryz.prog (hn [10] [] [] [(0, [0, 1]), (1, [4])] []) Go.Proofs.Tryz.f309)
 (.node 308 (trFn Go.Proofs.Tryz.prog (hn [] [] [] [(0, [0]), (1, [0, 3]), (2, [0, 3, 4]), (3, [0, 3, 4, 18]), (4, [0, 3, 4]), (5, [0, 3, 4, 5]), (6, [0, 3, 4, 5, 46]), (7, [0, 4]), (8, [0, 3, 4]), (9, [0, 3, 4, 5]), (10, [0, 3, 4, 5, 54]), (12, [0, 3, 4, 5, 83]), (13, [0, 3, 4, 5]), (14, [0, 3, 4, 5, 87]), (15, [0, 4, 5, 89]), (16, [2]), (17, [0, 3, 4, 5]), (18, [0, 4, 5, 91]), (19, [2]), (20, [0, 3, 4, 5]), (11, [0, 3, 4, 5]), (21, [2])] [(10, [0, 3, 4, 5])]) Go.Proofs.Tryz.f308)
 (.node 307 (trFn Go.Proofs.Tryz.prog (hn [] [] [] [(0, [0]), (1, [2])] []) Go.Proofs.Tryz.f307)
 .leaf .leaf) .leaf) (.node 310 (trFn Go.Proofs.Tryz.prog (hn [10] [] [] [(0, [0, 1]), (1, [4])] []) Go.Proofs.Tryz.f310)
 .leaf .leaf)) (.node 314 (trFn Go.Proofs.Tryz.prog (hn [] [] [] [(0, [0, 1, 2]), (1, [6])] []) Go.Proofs.Tryz.f314)
 (.node 313 (trFn Go.Proofs.Tryz.prog (hn [] [] [] [(0, [0, 2, 3, 8]), (1, [0, 2, 3, 8, 9]), (2, [0, 2, 3, 8, 9, 16]), (3, [0, 2, 3, 8, 9, 36]), (4, [0, 2, 3, 8, 9]), (5, [0, 2, 3, 8, 9, 52]), (6, [0, 2, 3, 9]), (7, [0, 2, 3, 8])] [(1, [0, 2, 3, 8])]) Go.Proofs.Tryz.f313)
 (.node 312 (trFn Go.Proofs.Tryz.prog (hn [15] [] [] [(0, [0, 1, 2]), (1, [6])] []) Go.Proofs.Tryz.f312)
 .leaf .leaf) .leaf) (.node 315 (trFn Go.Proofs.Tryz.prog (hn [] [] [] [(0, [0, 1, 2, 3, 4]), (1, [0, 1, 2, 3, 4]), (2, [0, 1, 2, 4]), (3, [2]), (4, [10])] []) Go.Proofs.Tryz.f315)
 .leaf .leaf))) (.node 322 (trFn Go.Proofs.Tryz.prog (hn [] [] [] [(0, [0]), (1, [0, 6]), (2, [2]), (3, [0, 3]), (4, [3]), (5, [2])] []) Go.Proofs.Tryz.f322)
 (.node 320 (trFn Go.Proofs.Tryz.prog (hn [] [] [] [(0, [0]), (1, [0, 4]), (2, [0, 30]), (3, [0, 5]), (4, [0, 5, 39]), (5, [0, 5]), (6, [0, 5, 44]), (7, [2, 3]), (8, [0, 5, 6]), (9, [5, 6, 47, 48, 49]), (10, [5, 6, 47, 48, 49, 50]), (11, [5, 6, 8, 47, 48, 49]), (12, [5, 6, 8, 47, 48, 49]), (13, [5, 6, 8, 47, 48, 49, 56]), (14, [2, 3]), (15, [5, 6, 47, 48, 49]), (16, [5, 6, 47, 48, 49]), (17, [6, 66]), (18, [6]), (19, [2, 3]), (20, [9, 10]), (21, [2, 3])] [(10, [5, 6, 47, 48, 49])]) Go.Proofs.Tryz.f320)
 (.node 319 (trFn Go.Proofs.Tryz.prog (hn [] [] [] [(0, [0, 1]), (1, [0, 1, 7]), (2, [4]), (3, [4])] []) Go.Proofs.Tryz.f319)
 (.node 318 (trFn Go.Proofs.Tryz.prog (hn [] [] [] [(0, [0]), (1, [0, 4]), (2, [0, 4, 5]), (3, [0, 4, 5, 12]), (5, [0, 4, 5]), (4, [0, 4, 5]), (6, [0, 4, 6, 7]), (7, [4, 6, 7, 8]), (8, [4, 6, 7, 8, 25]), (10, [4, 6, 7, 8, 30]), (11, [4, 6, 7, 8]), (12, [4, 6, 7, 8]), (9, [4, 6, 7, 8]), (13, [2, 3])] [(3, [0, 4, 5]), (8, [4, 6, 7, 8])]) Go.Proofs.Tryz.f318)
 .leaf .leaf) .leaf) (.node 321 (trFn Go.Proofs.Tryz.prog (hn [] [] [] [(0, [0, 1]), (1, [0, 1, 5]), (3, [0, 1, 5, 11]), (5, [0, 1, 5, 25]), (6, [0, 1, 5, 25]), (8, [0, 1, 50]), (2, [4]), (9, [4]), (7, [4]), (4, [4])] []) Go.Proofs.Tryz.f321)
 .leaf .leaf)) (.node 324 (trFn Go.Proofs.Tryz.prog (hn [] [] [] [(0, [0, 1, 2, 3]), (1, [1, 2, 3, 18]), (2, [1, 2]), (3, [8, 9]), (4, [8, 9])] []) Go.Proofs.Tryz.f324)
 (.node 323 (trFn Go.Proofs.Tryz.prog (hn [5] [] [] [(0, [0]), (1, [2])] []) Go.Proofs.Tryz.f323)
 .leaf .leaf) (.node 325 (trFn Go.Proofs.Tryz.prog (hn [] [] [] [(0, [0, 1, 2]), (1, [0, 1, 2, 13]), (2, [6, 7]), (3, [0, 1, 2, 8]), (4, [0, 1, 2, 8, 16]), (5, [0, 1, 2, 8, 16, 17]), (7, [0, 1, 2, 8, 21]), (8, [0, 1, 2]), (9, [0, 1, 2, 8]), (6, [0, 1, 2, 8]), (10, [0, 1, 2, 8]), (11, [2, 7, 8, 9]), (12, [2, 7, 8, 9, 38]), (13, [6, 7]), (14, [2, 8, 9, 41]), (15, [2, 8, 9]), (16, [8, 9, 10]), (17, [8, 9, 10, 52]), (18, [6, 7]), (19, [8, 9, 10, 62]), (20, [6, 7]), (21, [8, 11]), (22, [11, 69]), (23, [11]), (24, [6, 7])] []) Go.Proofs.Tryz.f325)
 .leaf .leaf)))))))
theorem tab_ok : tab.Ok Go.Proofs.Tryz.prog := by unfold tab; exact (BT.nd Go.Proofs.Tryz.func224 (BT.nd Go.Proofs.Tryz.func144 (BT.nd Go.Proofs.Tryz.func117 (BT.nd Go.Proofs.Tryz.func70 (BT.nd Go.Proofs.Tryz.func65 (BT.nd Go.Proofs.Tryz.func63 (BT.nd Go.Proofs.Tryz.func59 (BT.nd Go.Proofs.Tryz.func16 BT.lf BT.lf) BT.lf) (BT.nd Go.Proofs.Tryz.func64 BT.lf BT.lf)) (BT.nd Go.Proofs.Tryz.func68 (BT.nd Go.Proofs.Tryz.func67 (BT.nd Go.Proofs.Tryz.func66 BT.lf BT.lf) BT.lf) (BT.nd Go.Proofs.Tryz.func69 BT.lf BT.lf))) (BT.nd Go.Proofs.Tryz.func76 (BT.nd Go.Proofs.Tryz.func73 (BT.nd Go.Proofs.Tryz.func72 (BT.nd Go.Proofs.Tryz.func71 BT.lf BT.lf) BT.lf) (BT.nd Go.Proofs.Tryz.func74 BT.lf BT.lf)) (BT.nd Go.Proofs.Tryz.func96 (BT.nd Go.Proofs.Tryz.func95 (BT.nd Go.Proofs.Tryz.func79 BT.lf BT.lf) BT.lf) (BT.nd Go.Proofs.Tryz.func114 BT.lf BT.lf)))) (BT.nd Go.Proofs.Tryz.func129 (BT.nd Go.Proofs.Tryz.func124 (BT.nd Go.Proofs.Tryz.func122 (BT.nd Go.Proofs.Tryz.func121 (BT.nd Go.Proofs.Tryz.func120 BT.lf BT.lf) BT.lf) (BT.nd Go.Proofs.Tryz.func123 BT.lf BT.lf)) (BT.nd Go.Proofs.Tryz.func127 (BT.nd Go.Proofs.Tryz.func126 (BT.nd Go.Proofs.Tryz.func125 BT.lf BT.lf) BT.lf) (BT.nd Go.Proofs.Tryz.func128 BT.lf BT.lf))) (BT.nd Go.Proofs.Tryz.func134 (BT.nd Go.Proofs.Tryz.func132 (BT.nd Go.Proofs.Tryz.func131 (BT.nd Go.Proofs.Tryz.func130 BT.lf BT.lf) BT.lf) (BT.nd Go.Proofs.Tryz.func133 BT.lf BT.lf)) (BT.nd Go.Proofs.Tryz.func137 (BT.nd Go.Proofs.Tryz.func136 (BT.nd Go.Proofs.Tryz.func135 BT.lf BT.lf) BT.lf) (BT.nd Go.Proofs.Tryz.func138 BT.lf BT.lf))))) (BT.nd Go.Proofs.Tryz.func189 (BT.nd Go.Proofs.Tryz.func179 (BT.nd Go.Proofs.Tryz.func164 (BT.nd Go.Proofs.Tryz.func155 (BT.nd Go.Proofs.Tryz.func146 (BT.nd Go.Proofs.Tryz.func145 BT.lf BT.lf) BT.lf) (BT.nd Go.Proofs.Tryz.func158 BT.lf BT.lf)) (BT.nd Go.Proofs.Tryz.func177 (BT.nd Go.Proofs.Tryz.func176 (BT.nd Go.Proofs.Tryz.func175 BT.lf BT.lf) BT.lf) (BT.nd Go.Proofs.Tryz.func178 BT.lf BT.lf))) (BT.nd Go.Proofs.Tryz.func184 (BT.nd Go.Proofs.Tryz.func182 (BT.nd Go.Proofs.Tryz.func181 (BT.nd Go.Proofs.Tryz.func180 BT.lf BT.lf) BT.lf) (BT.nd Go.Proofs.Tryz.func183 BT.lf BT.lf)) (BT.nd Go.Proofs.Tryz.func187 (BT.nd Go.Proofs.Tryz.func186 (BT.nd Go.Proofs.Tryz.func185 BT.lf BT.lf) BT.lf) (BT.nd Go.Proofs.Tryz.func188 BT.lf BT.lf)))) (BT.nd Go.Proofs.Tryz.func201 (BT.nd Go.Proofs.Tryz.func194 (BT.nd Go.Proofs.Tryz.func192 (BT.nd Go.Proofs.Tryz.func191 (BT.nd Go.Proofs.Tryz.func190 BT.lf BT.lf) BT.lf) (BT.nd Go.Proofs.Tryz.func193 BT.lf BT.lf)) (BT.nd Go.Proofs.Tryz.func197 (BT.nd Go.Proofs.Tryz.func196 (BT.nd Go.Proofs.Tryz.func195 BT.lf BT.lf) BT.lf) (BT.nd Go.Proofs.Tryz.func198 BT.lf BT.lf))) (BT.nd Go.Proofs.Tryz.func218 (BT.nd Go.Proofs.Tryz.func205 (BT.nd Go.Proofs.Tryz.func203 (BT.nd Go.Proofs.Tryz.func202 BT.lf BT.lf) BT.lf) (BT.nd Go.Proofs.Tryz.func217 BT.lf BT.lf)) (BT.nd Go.Proofs.Tryz.func222 (BT.nd Go.Proofs.Tryz.func221 BT.lf BT.lf) (BT.nd Go.Proofs.Tryz.func223 BT.lf BT.lf)))))) (BT.nd Go.Proofs.Tryz.func280 (BT.nd Go.Proofs.Tryz.func247 (BT.nd Go.Proofs.Tryz.func236 (BT.nd Go.Proofs.Tryz.func231 (BT.nd Go.Proofs.Tryz.func229 (BT.nd Go.Proofs.Tryz.func228 (BT.nd Go.Proofs.Tryz.func225 BT.lf BT.lf) BT.lf) (BT.nd Go.Proofs.Tryz.func230 BT.lf BT.lf)) (BT.nd Go.Proofs.Tryz.func234 (BT.nd Go.Proofs.Tryz.func233 (BT.nd Go.Proofs.Tryz.func232 BT.lf BT.lf) BT.lf) (BT.nd Go.Proofs.Tryz.func235 BT.lf BT.lf))) (BT.nd Go.Proofs.Tryz.func241 (BT.nd Go.Proofs.Tryz.func239 (BT.nd Go.Proofs.Tryz.func238 (BT.nd Go.Proofs.Tryz.func237 BT.lf BT.lf) BT.lf) (BT.nd Go.Proofs.Tryz.func240 BT.lf BT.lf)) (BT.nd Go.Proofs.Tryz.func244 (BT.nd Go.Proofs.Tryz.func243 (BT.nd Go.Proofs.Tryz.func242 BT.lf BT.lf) BT.lf) (BT.nd Go.Proofs.Tryz.func245 BT.lf BT.lf)))) (BT.nd Go.Proofs.Tryz.func269 (BT.nd Go.Proofs.Tryz.func264 (BT.nd Go.Proofs.Tryz.func262 (BT.nd Go.Proofs.Tryz.func251 (BT.nd Go.Proofs.Tryz.func250 BT.lf BT.lf) BT.lf) (BT.nd Go.Proofs.Tryz.func263 BT.lf BT.lf)) (BT.nd Go.Proofs.Tryz.func267 (BT.nd Go.Proofs.Tryz.func266 (BT.nd Go.Proofs.Tryz.func265 BT.lf BT.lf) BT.lf) (BT.nd Go.Proofs.Tryz.func268 BT.lf BT.lf))) (BT.nd Go.Proofs.Tryz.func274 (BT.nd Go.Proofs.Tryz.func272 (BT.nd Go.Proofs.Tryz.func271 (BT.nd Go.Proofs.Tryz.func270 BT.lf BT.lf) BT.lf) (BT.nd Go.Proofs.Tryz.func273 BT.lf BT.lf)) (BT.nd Go.Proofs.Tryz.func277 (BT.nd Go.Proofs.Tryz.func276 (BT.nd Go.Proofs.Tryz.func275 BT.lf BT.lf) BT.lf) (BT.nd Go.Proofs.Tryz.func279 BT.lf BT.lf))))) (BT.nd Go.Proofs.Tryz.func306 (BT.nd Go.Proofs.Tryz.func290 (BT.nd Go.Proofs.Tryz.func285 (BT.nd Go.Proofs.Tryz.func283 (BT.nd Go.Proofs.Tryz.func282 (BT.nd Go.Proofs.Tryz.func281 BT.lf BT.lf) BT.lf) (BT.nd Go.Proofs.Tryz.func284 BT.lf BT.lf)) (BT.nd Go.Proofs.Tryz.func288 (BT.nd Go.Proofs.Tryz.func287 (BT.nd Go.Proofs.Tryz.func286 BT.lf BT.lf) BT.lf) (BT.nd Go.Proofs.Tryz.func289 BT.lf BT.lf))) (BT.nd Go.Proofs.Tryz.func301 (BT.nd Go.Proofs.Tryz.func297 (BT.nd Go.Proofs.Tryz.func296 (BT.nd Go.Proofs.Tryz.func291 BT.lf BT.lf) BT.lf) (BT.nd Go.Proofs.Tryz.func300 BT.lf BT.lf)) (BT.nd Go.Proofs.Tryz.func304 (BT.nd Go.Proofs.Tryz.func303 (BT.nd Go.Proofs.Tryz.func302 BT.lf BT.lf) BT.lf) (BT.nd Go.Proofs.Tryz.func305 BT.lf BT.lf)))) (BT.nd Go.Proofs.Tryz.func316 (BT.nd Go.Proofs.Tryz.func311 (BT.nd Go.Proofs.Tryz.func309 (BT.nd Go.Proofs.Tryz.func308 (BT.nd Go.Proofs.Tryz.func307 BT.lf BT.lf) BT.lf) (BT.nd Go.Proofs.Tryz.func310 BT.lf BT.lf)) (BT.nd Go.Proofs.Tryz.func314 (BT.nd Go.Proofs.Tryz.func313 (BT.nd Go.Proofs.Tryz.func312 BT.lf BT.lf) BT.lf) (BT.nd Go.Proofs.Tryz.func315 BT.lf BT.lf))) (BT.nd Go.Proofs.Tryz.func322 (BT.nd Go.Proofs.Tryz.func320 (BT.nd Go.Proofs.Tryz.func319 (BT.nd Go.Proofs.Tryz.func318 BT.lf BT.lf) BT.lf) (BT.nd Go.Proofs.Tryz.func321 BT.lf BT.lf)) (BT.nd Go.Proofs.Tryz.func324 (BT.nd Go.Proofs.Tryz.func323 BT.lf BT.lf) (BT.nd Go.Proofs.Tryz.func325 BT.lf BT.lf)))))))
def fn_gatekeep2_ready : Nat := 16
end Go.Ag
/- The abstract code of the functions that are walked through. -/
namespace Go.Ag
open Go
set_option linter.unusedVariables false
/- gatewarden/gatemake.Below -/
def h_119 : FHint := hn [] [] [] [(0, [0, 1]), (1, [0, 1, 6]), (2, [4]), (3, [0, 1]), (4, [0, 1, 11]), (5, [0]), (6, [4])] []
def ir_119 : IFun := ⟨16, [.t 4],
 (.seq
  (.ops [
    ⟨(some 4), .op (.mv), [.k (.p (.int .i64 0))], none⟩] (some [0, 1]))
  (.seq
   (.seq
    (.ops [
      ⟨(some 5), .op (.mv), [.r 1], none⟩,
      ⟨(some 6), .op (.bin .lss .num), [.r 5, .k (.p (.int .i64 1))], none⟩] (some [0, 1, 6]))
    (.cond (.r 6)
     (.seq
      (.ops [
        ⟨(some 4), .op (.mv), [.k (.p (.int .i64 0))], none⟩] (some [4]))
      .ret)
     .skip))
   (.seq
    (.ops [
      ⟨(some 7), .op (.mv), [.r 0], none⟩,
      ⟨(some 8), .op (.mv), [.r 1], none⟩,
      ⟨(some 9), .op (.bin .rem .num), [.r 7, .r 8], none⟩,
      ⟨(some 0), .op (.mv), [.r 9], none⟩] (some [0, 1]))
    (.seq
     (.seq
      (.ops [
        ⟨(some 10), .op (.mv), [.r 0], none⟩,
        ⟨(some 11), .op (.bin .lss .num), [.r 10, .k (.p (.int .i64 0))], none⟩] (some [0, 1, 11]))
      (.cond (.r 11)
       (.ops [
         ⟨(some 12), .op (.mv), [.r 0], none⟩,
         ⟨(some 13), .op (.mv), [.r 1], none⟩,
         ⟨(some 14), .op (.bin .add .num), [.r 12, .r 13], none⟩,
         ⟨(some 0), .op (.mv), [.r 14], none⟩] (some [0]))
       .skip))
     (.seq
      (.ops [
        ⟨(some 15), .op (.mv), [.r 0], none⟩,
        ⟨(some 4), .op (.mv), [.r 15], none⟩] (some [4]))
      .ret)))))⟩
theorem tr_119 : trFn Go.Proofs.Tryz.prog h_119 Go.Proofs.Tryz.f119 = some ir_119 := by kernel_rfl
theorem walk_119 {args : List RV} {S : Mem} {Q : RV → Mem → Prop} (hS : S.loc = []) (ha : args.length ≤ 16) (h : fnF false Go.Proofs.Tryz.prog ir_119 args S Q) : SC Go.Proofs.Tryz.prog 119 args S Q := SC.walk mix Go.Proofs.Tryz.func119 tr_119 hS ha h
/- (*gatewarden/gatemake.Stream).Next -/
def h_62 : FHint := hn [] [] [] [(0, [0, 1]), (1, [0, 1]), (2, [0, 1, 19]), (3, [4]), (4, [0, 1, 5]), (5, [0, 1, 5, 6]), (6, [4])] []
def ir_62 : IFun := ⟨64, [.t 4],
 (.seq
  (.ops [
    ⟨(some 4), .op (.mv), [.k (.p (.int .i64 0))], none⟩] (some [0, 1]))
  (.seq
   (.ops [
     ⟨(some 7), .op (.mv), [.r 0], none⟩,
     ⟨(some 8), .op (.nilchk), [.r 7], none⟩,
     ⟨(some 9), .op (.fa 1), [.r 8], none⟩,
     ⟨(some 10), .op (.ld none), [.r 9], none⟩,
     ⟨(some 11), .op (.bin .add .num), [.r 10, .k (.p (.int .i64 1))], none⟩,
     ⟨(some 12), .op (.nilchk), [.r 7], none⟩,
     ⟨(some 13), .op (.fa 1), [.r 12], none⟩,
     ⟨none, .op (.st 1), [.r 13, .r 11], none⟩] (some [0, 1]))
   (.seq
    (.seq
     (.ops [
       ⟨(some 14), .op (.mv), [.r 0], none⟩,
       ⟨(some 15), .op (.nilchk), [.r 14], none⟩,
       ⟨(some 16), .op (.fa 0), [.r 15], none⟩,
       ⟨(some 17), .op (.ld none), [.r 16], none⟩,
       ⟨(some 18), .op (.lenl), [.r 17], none⟩,
       ⟨(some 19), .op (.bin .eql .num), [.r 18, .k (.p (.int .i64 0))], none⟩] (some [0, 1, 19]))
     (.cond (.r 19)
      (.seq
       (.ops [
         ⟨(some 20), .op (.mv), [.r 0], none⟩,
         ⟨(some 21), .op (.nilchk), [.r 20], none⟩,
         ⟨(some 22), .op (.fa 1), [.r 21], none⟩,
         ⟨(some 23), .op (.ld none), [.r 22], none⟩,
         ⟨(some 24), .op (.bin .mul .num), [.r 23, .k (.p (.int .i64 7919))], none⟩,
         ⟨(some 25), .op (.mv), [.r 1], none⟩,
         ⟨(some 26), .callP 119, [.r 24, .r 25], none⟩,
         ⟨(some 4), .op (.mv), [.r 26], none⟩] (some [4]))
       .ret)
      .skip))
    (.seq
     (.opsD [
       ⟨(some 27), .op (.mv), [.r 0], none⟩,
       ⟨(some 28), .op (.nilchk), [.r 27], none⟩,
       ⟨(some 29), .op (.fa 1), [.r 28], none⟩,
       ⟨(some 30), .op (.ld none), [.r 29], none⟩,
       ⟨(some 31), .op (.bin .sub .num), [.r 30, .k (.p (.int .i64 1))], none⟩,
       ⟨(some 32), .op (.mv), [.r 0], none⟩,
       ⟨(some 33), .op (.nilchk), [.r 32], none⟩,
       ⟨(some 34), .op (.fa 0), [.r 33], none⟩,
       ⟨(some 35), .op (.ld none), [.r 34], none⟩,
       ⟨(some 36), .op (.lenl), [.r 35], none⟩,
       ⟨(some 37), .op (.bin .rem .num), [.r 31, .r 36], none⟩,
       ⟨(some 5), .op (.mv), [.r 37], none⟩] [] (some [0, 1, 5]))
     (.seq
      (.opsD [
        ⟨(some 38), .op (.mv), [.r 0], none⟩,
        ⟨(some 39), .op (.nilchk), [.r 38], none⟩,
        ⟨(some 40), .op (.fa 1), [.r 39], none⟩,
        ⟨(some 41), .op (.ld none), [.r 40], none⟩,
        ⟨(some 42), .op (.bin .sub .num), [.r 41, .k (.p (.int .i64 1))], none⟩,
        ⟨(some 43), .op (.mv), [.r 0], none⟩,
        ⟨(some 44), .op (.nilchk), [.r 43], none⟩,
        ⟨(some 45), .op (.fa 0), [.r 44], none⟩,
        ⟨(some 46), .op (.ld none), [.r 45], none⟩,
        ⟨(some 47), .op (.lenl), [.r 46], none⟩,
        ⟨(some 48), .op (.bin .quo .num), [.r 42, .r 47], none⟩,
        ⟨(some 6), .op (.mv), [.r 48], none⟩] [] (some [0, 1, 5, 6]))
      (.seq
       (.ops [
         ⟨(some 49), .op (.mv), [.r 0], none⟩,
         ⟨(some 50), .op (.nilchk), [.r 49], none⟩,
         ⟨(some 51), .op (.fa 0), [.r 50], none⟩,
         ⟨(some 52), .op (.ld none), [.r 51], none⟩,
         ⟨(some 53), .op (.mv), [.r 5], none⟩,
         ⟨(some 54), .op (.ia 1), [.r 52, .r 53], none⟩,
         ⟨(some 55), .op (.ld none), [.r 54], none⟩,
         ⟨(some 56), .callP 119, [.r 55, .k (.p (.int .i64 1073741824))], none⟩,
         ⟨(some 57), .op (.mv), [.r 6], none⟩,
         ⟨(some 58), .op (.mv), [.r 5], none⟩,
         ⟨(some 59), .op (.bin .add .num), [.k (.p (.int .i64 7919)), .r 58], none⟩,
         ⟨(some 60), .op (.bin .mul .num), [.r 57, .r 59], none⟩,
         ⟨(some 61), .op (.bin .add .num), [.r 56, .r 60], none⟩,
         ⟨(some 62), .op (.mv), [.r 1], none⟩,
         ⟨(some 63), .callP 119, [.r 61, .r 62], none⟩,
         ⟨(some 4), .op (.mv), [.r 63], none⟩] (some [4]))
       .ret))))))⟩
theorem tr_62 : trFn Go.Proofs.Tryz.prog h_62 Go.Proofs.Tryz.f62 = some ir_62 := by kernel_rfl
theorem walk_62 {args : List RV} {S : Mem} {Q : RV → Mem → Prop} (hS : S.loc = []) (ha : args.length ≤ 64) (h : fnF false Go.Proofs.Tryz.prog ir_62 args S Q) : SC Go.Proofs.Tryz.prog 62 args S Q := SC.walk mix Go.Proofs.Tryz.func62 tr_62 hS ha h
/- (*gatewarden/gatemake.Stream).Range -/
def h_13 : FHint := hn [] [] [] [(0, [0, 1, 2]), (1, [0, 1, 2, 9]), (2, [6]), (3, [6])] []
def ir_13 : IFun := ⟨19, [.t 6],
 (.seq
  (.ops [
    ⟨(some 6), .op (.mv), [.k (.p (.int .i64 0))], none⟩] (some [0, 1, 2]))
  (.seq
   (.seq
    (.ops [
      ⟨(some 7), .op (.mv), [.r 2], none⟩,
      ⟨(some 8), .op (.mv), [.r 1], none⟩,
      ⟨(some 9), .op (.bin .lss .num), [.r 7, .r 8], none⟩] (some [0, 1, 2, 9]))
    (.cond (.r 9)
     (.seq
      (.ops [
        ⟨(some 10), .op (.mv), [.r 1], none⟩,
        ⟨(some 6), .op (.mv), [.r 10], none⟩] (some [6]))
      .ret)
     .skip))
   (.seq
    (.ops [
      ⟨(some 11), .op (.mv), [.r 1], none⟩,
      ⟨(some 12), .op (.mv), [.r 0], none⟩,
      ⟨(some 13), .op (.mv), [.r 2], none⟩,
      ⟨(some 14), .op (.mv), [.r 1], none⟩,
      ⟨(some 15), .op (.bin .sub .num), [.r 13, .r 14], none⟩,
      ⟨(some 16), .op (.bin .add .num), [.r 15, .k (.p (.int .i64 1))], none⟩,
      ⟨(some 17), .call 62, [.r 12, .r 16], none⟩,
      ⟨(some 18), .op (.bin .add .num), [.r 11, .r 17], none⟩,
      ⟨(some 6), .op (.mv), [.r 18], none⟩] (some [6]))
    .ret)))⟩
theorem tr_13 : trFn Go.Proofs.Tryz.prog h_13 Go.Proofs.Tryz.f13 = some ir_13 := by kernel_rfl
theorem walk_13 {args : List RV} {S : Mem} {Q : RV → Mem → Prop} (hS : S.loc = []) (ha : args.length ≤ 19) (h : fnF false Go.Proofs.Tryz.prog ir_13 args S Q) : SC Go.Proofs.Tryz.prog 13 args S Q := SC.walk mix Go.Proofs.Tryz.func13 tr_13 hS ha h
/- gatewarden/gatekeep2.SwitchesProtect -/
def h_5 : FHint := hn [17] [] [] [(0, [0]), (1, [3]), (2, [3, 4]), (3, [3, 4, 5, 6]), (4, [3, 4, 5, 35]), (5, [2]), (6, [3, 4, 5, 7]), (7, [3, 4, 5, 7, 39, 40]), (8, [3, 4, 5, 7, 39, 40, 41]), (9, [3, 4, 5, 7, 8, 9, 39, 40]), (10, [3, 4, 5, 7, 39, 40, 59]), (11, [2]), (12, [3, 4, 5, 7, 39, 40]), (13, [4, 5, 6, 7, 10]), (14, [4, 5, 7, 77]), (15, [2]), (16, [4, 5, 7]), (17, [4, 5, 7, 83, 84]), (18, [4, 5, 7, 83, 84, 85]), (19, [4, 5, 7, 11, 12, 83, 84]), (20, [4, 5, 7, 83, 84, 97]), (21, [2]), (22, [4, 5, 7, 83, 84]), (23, [4, 5, 6, 7, 13]), (24, [4, 5, 7, 109]), (25, [2]), (26, [5, 7, 111, 112]), (27, [5, 7, 111, 112, 113]), (28, [5, 7, 111, 112, 117]), (29, [2]), (30, [5, 7, 111, 112]), (31, [6, 14]), (32, [2])] [(8, [3, 4, 5, 7, 39, 40]), (18, [4, 5, 7, 83, 84]), (27, [5, 7, 111, 112])]
def ir_5_l0 : IR :=
 (.seq
  (.ops [
    ⟨(some 113), .op (.bin .lss .num), [.r 112, .r 111], none⟩] (some [5, 7, 111, 112, 113]))
  (.seq
   (.cond (.r 113)
    .skip
    (.exit 4))
   (.seq
    (.block 5
     (.seq
      (.ops [
        ⟨(some 114), .op (.mv), [.r 5], none⟩,
        ⟨(some 115), .op (.mv), [.r 7], none⟩,
        ⟨(some 116), .call 26, [.r 114, .r 115, .k (.p (.bool true))], none⟩,
        ⟨(some 117), .op (.bin .neq .num), [.r 116, .k (.p (.int .i64 0))], none⟩] (some [5, 7, 111, 112, 117]))
      (.cond (.r 117)
       (.seq
        (.ops [
          ⟨(some 2), .op (.mv), [.k (.p (.bool false))], none⟩] (some [2]))
        .ret)
       .skip)))
    (.ops [
      ⟨(some 118), .op (.bin .add .num), [.r 112, .k (.p (.int .i64 1))], none⟩,
      ⟨(some 112), .op (.mv), [.r 118], none⟩] (some [5, 7, 111, 112])))))
def ir_5_l1 : IR :=
 (.seq
  (.ops [
    ⟨(some 85), .op (.bin .lss .num), [.r 84, .r 83], none⟩] (some [4, 5, 7, 83, 84, 85]))
  (.seq
   (.cond (.r 85)
    .skip
    (.exit 2))
   (.seq
    (.block 3
     (.seq
      (.ops [
        ⟨(some 87), .op (.mv), [.r 5], none⟩,
        ⟨(some 88), .op (.mv), [.r 7], none⟩,
        ⟨(some 89), .call 25, [.r 87, .r 88], none⟩,
        ⟨(some 86), .op (.mv), [.r 89], none⟩,
        ⟨(some 90), .op (.ext 0), [.r 86], none⟩,
        ⟨(some 91), .op (.ext 1), [.r 86], none⟩,
        ⟨(some 11), .op (.mv), [.r 90], none⟩,
        ⟨(some 12), .op (.mv), [.r 91], none⟩] (some [4, 5, 7, 11, 12, 83, 84]))
      (.seq
       (.ops [
         ⟨(some 92), .op (.mv), [.r 12], none⟩,
         ⟨(some 93), .op (.bin .neq .num), [.r 92, .k (.p (.int .i64 0))], none⟩,
         ⟨(some 94), .op (.mv), [.r 93], none⟩,
         ⟨(some 95), .op (.mv), [.r 11], (some (94, false))⟩,
         ⟨(some 96), .op (.un .not), [.r 95], (some (94, false))⟩,
         ⟨(some 97), .op (.pick), [.r 94, .k (.p (.bool true)), .r 96], none⟩] (some [4, 5, 7, 83, 84, 97]))
       (.cond (.r 97)
        (.seq
         (.ops [
           ⟨(some 2), .op (.mv), [.k (.p (.bool false))], none⟩] (some [2]))
         .ret)
        .skip))))
    (.ops [
      ⟨(some 98), .op (.bin .add .num), [.r 84, .k (.p (.int .i64 1))], none⟩,
      ⟨(some 84), .op (.mv), [.r 98], none⟩] (some [4, 5, 7, 83, 84])))))
def ir_5_l2 : IR :=
 (.seq
  (.ops [
    ⟨(some 41), .op (.bin .lss .num), [.r 40, .r 39], none⟩] (some [3, 4, 5, 7, 39, 40, 41]))
  (.seq
   (.cond (.r 41)
    .skip
    (.exit 0))
   (.seq
    (.block 1
     (.seq
      (.ops [
        ⟨(some 43), .op (.mv), [.r 5], none⟩,
        ⟨(some 44), .op (.mv), [.r 7], none⟩,
        ⟨(some 45), .call 25, [.r 43, .r 44], none⟩,
        ⟨(some 42), .op (.mv), [.r 45], none⟩,
        ⟨(some 46), .op (.ext 0), [.r 42], none⟩,
        ⟨(some 47), .op (.ext 1), [.r 42], none⟩,
        ⟨(some 8), .op (.mv), [.r 46], none⟩,
        ⟨(some 9), .op (.mv), [.r 47], none⟩] (some [3, 4, 5, 7, 8, 9, 39, 40]))
      (.seq
       (.ops [
         ⟨(some 48), .op (.mv), [.r 9], none⟩,
         ⟨(some 49), .op (.bin .neq .num), [.r 48, .k (.p (.int .i64 0))], none⟩,
         ⟨(some 50), .op (.mv), [.r 49], none⟩,
         ⟨(some 51), .op (.mv), [.r 8], (some (50, false))⟩,
         ⟨(some 52), .op (.un .not), [.r 51], (some (50, false))⟩,
         ⟨(some 53), .op (.pick), [.r 50, .k (.p (.bool true)), .r 52], none⟩,
         ⟨(some 54), .op (.mv), [.r 53], none⟩,
         ⟨(some 55), .op (.mv), [.r 5], (some (54, false))⟩,
         ⟨(some 56), .op (.mv), [.r 7], (some (54, false))⟩,
         ⟨(some 57), .call 26, [.r 55, .r 56, .k (.p (.bool false))], (some (54, false))⟩,
         ⟨(some 58), .op (.bin .neq .num), [.r 57, .k (.p (.int .i64 0))], (some (54, false))⟩,
         ⟨(some 59), .op (.pick), [.r 54, .k (.p (.bool true)), .r 58], none⟩] (some [3, 4, 5, 7, 39, 40, 59]))
       (.cond (.r 59)
        (.seq
         (.ops [
           ⟨(some 2), .op (.mv), [.k (.p (.bool false))], none⟩] (some [2]))
         .ret)
        .skip))))
    (.ops [
      ⟨(some 60), .op (.bin .add .num), [.r 40, .k (.p (.int .i64 1))], none⟩,
      ⟨(some 40), .op (.mv), [.r 60], none⟩] (some [3, 4, 5, 7, 39, 40])))))
def ir_5 : IFun := ⟨134, [.t 2],
 (.seq
  (.ops [
    ⟨(some 2), .op (.mv), [.k (.p (.bool false))], none⟩] (some [0]))
  (.seq
   (.ops [
     ⟨(some 15), .op (.mv), [.r 0], none⟩,
     ⟨(some 16), .op (.build [(.nsl true), (.p (.int .i64 0))] [(0, 1), (1, 1)] [0]), [.r 15], none⟩,
     ⟨(some 17), .op (.boxH 25), [.r 16], none⟩,
     ⟨(some 3), .op (.mv), [.r 17], none⟩] (some [3]))
   (.seq
    (.ops [
      ⟨(some 18), .op (.mv), [.r 3], none⟩,
      ⟨(some 19), .call 13, [.r 18, .k (.p (.int .i64 1)), .k (.p (.int .i64 3))], none⟩,
      ⟨(some 20), .op (.mv), [.r 3], none⟩,
      ⟨(some 21), .call 13, [.r 20, .k (.p (.int .i64 1)), .k (.p (.int .i64 50))], none⟩,
      ⟨(some 22), .op (.mv), [.r 3], none⟩,
      ⟨(some 23), .call 13, [.r 22, .k (.p (.int .i64 1)), .k (.p (.int .i64 2))], none⟩,
      ⟨(some 24), .op (.build [(.p (.int .i64 0)), (.p (.int .i64 0)), (.p (.int .i64 0)), (.p (.int .i64 0))] [(0, 1), (1, 1), (2, 1), (3, 1)] [0, 1, 2, 3]), [.r 19, .k (.p (.int .i64 1000)), .r 21, .r 23], none⟩,
      ⟨(some 4), .op (.allocL 4 [(.p (.int .i64 0)), (.p (.int .i64 0)), (.p (.int .i64 0)), (.p (.int .i64 0))]), [], none⟩,
      ⟨none, .op (.st 4), [.r 4, .r 24], none⟩] (some [3, 4]))
    (.seq
     (.ops [
       ⟨(some 26), .op (.ld (some 4)), [.r 4], none⟩,
       ⟨(some 27), .call 24, [.r 26], none⟩,
       ⟨(some 25), .op (.mv), [.r 27], none⟩,
       ⟨(some 28), .op (.ext 0), [.r 25], none⟩,
       ⟨(some 29), .op (.ext 1), [.r 25], none⟩,
       ⟨(some 5), .op (.mv), [.r 28], none⟩,
       ⟨(some 6), .op (.mv), [.r 29], none⟩] (some [3, 4, 5, 6]))
     (.seq
      (.seq
       (.ops [
         ⟨(some 30), .op (.mv), [.r 6], none⟩,
         ⟨(some 31), .op (.bin .neq .num), [.r 30, .k (.p (.int .i64 0))], none⟩,
         ⟨(some 32), .op (.mv), [.r 31], none⟩,
         ⟨(some 33), .op (.mv), [.r 5], (some (32, false))⟩,
         ⟨(some 34), .op (.bin .eql .ptr), [.r 33, .k (.p .nilp)], (some (32, false))⟩,
         ⟨(some 35), .op (.pick), [.r 32, .k (.p (.bool true)), .r 34], none⟩] (some [3, 4, 5, 35]))
       (.cond (.r 35)
        (.seq
         (.ops [
           ⟨(some 2), .op (.mv), [.k (.p (.bool false))], none⟩] (some [2]))
         .ret)
        .skip))
      (.seq
       (.ops [
         ⟨(some 36), .op (.mv), [.r 3], none⟩,
         ⟨(some 37), .call 13, [.r 36, .k (.p (.int .i64 0)), .k (.p (.int .i64 100))], none⟩,
         ⟨(some 7), .op (.mv), [.r 37], none⟩] (some [3, 4, 5, 7]))
       (.seq
        (.seq
         (.ops [
           ⟨(some 38), .op (.fa 0), [.r 4], none⟩,
           ⟨(some 39), .op (.ld none), [.r 38], none⟩,
           ⟨(some 40), .op (.mv), [.k (.p (.int .i64 0))], none⟩] (some [3, 4, 5, 7, 39, 40]))
         (.block 0
          (.loop (some [3, 4, 5, 7, 39, 40]) ir_5_l2)))
        (.seq
         (.ops [
           ⟨(some 62), .op (.mv), [.r 5], none⟩,
           ⟨(some 63), .op (.mv), [.r 7], none⟩,
           ⟨(some 64), .op (.mv), [.r 3], none⟩,
           ⟨(some 65), .op (.fa 2), [.r 4], none⟩,
           ⟨(some 66), .op (.ld none), [.r 65], none⟩,
           ⟨(some 67), .op (.bin .sub .num), [.r 66, .k (.p (.int .i64 1))], none⟩,
           ⟨(some 68), .call 13, [.r 64, .k (.p (.int .i64 0)), .r 67], none⟩,
           ⟨(some 69), .op (.bin .add .num), [.r 63, .r 68], none⟩,
           ⟨(some 70), .call 25, [.r 62, .r 69], none⟩,
           ⟨(some 61), .op (.mv), [.r 70], none⟩,
           ⟨(some 71), .op (.ext 0), [.r 61], none⟩,
           ⟨(some 72), .op (.ext 1), [.r 61], none⟩,
           ⟨(some 10), .op (.mv), [.r 71], none⟩,
           ⟨(some 6), .op (.mv), [.r 72], none⟩] (some [4, 5, 6, 7, 10]))
         (.seq
          (.seq
           (.ops [
             ⟨(some 73), .op (.mv), [.r 6], none⟩,
             ⟨(some 74), .op (.bin .neq .num), [.r 73, .k (.p (.int .i64 0))], none⟩,
             ⟨(some 75), .op (.mv), [.r 74], none⟩,
             ⟨(some 76), .op (.mv), [.r 10], (some (75, false))⟩,
             ⟨(some 77), .op (.pick), [.r 75, .k (.p (.bool true)), .r 76], none⟩] (some [4, 5, 7, 77]))
           (.cond (.r 77)
            (.seq
             (.ops [
               ⟨(some 2), .op (.mv), [.k (.p (.bool false))], none⟩] (some [2]))
             .ret)
            .skip))
          (.seq
           (.ops [
             ⟨(some 78), .op (.mv), [.r 7], none⟩,
             ⟨(some 79), .op (.fa 2), [.r 4], none⟩,
             ⟨(some 80), .op (.ld none), [.r 79], none⟩,
             ⟨(some 81), .op (.bin .add .num), [.r 78, .r 80], none⟩,
             ⟨(some 7), .op (.mv), [.r 81], none⟩] (some [4, 5, 7]))
           (.seq
            (.seq
             (.ops [
               ⟨(some 82), .op (.fa 3), [.r 4], none⟩,
               ⟨(some 83), .op (.ld none), [.r 82], none⟩,
               ⟨(some 84), .op (.mv), [.k (.p (.int .i64 0))], none⟩] (some [4, 5, 7, 83, 84]))
             (.block 2
              (.loop (some [4, 5, 7, 83, 84]) ir_5_l1)))
            (.seq
             (.ops [
               ⟨(some 100), .op (.mv), [.r 5], none⟩,
               ⟨(some 101), .op (.mv), [.r 7], none⟩,
               ⟨(some 102), .call 25, [.r 100, .r 101], none⟩,
               ⟨(some 99), .op (.mv), [.r 102], none⟩,
               ⟨(some 103), .op (.ext 0), [.r 99], none⟩,
               ⟨(some 104), .op (.ext 1), [.r 99], none⟩,
               ⟨(some 13), .op (.mv), [.r 103], none⟩,
               ⟨(some 6), .op (.mv), [.r 104], none⟩] (some [4, 5, 6, 7, 13]))
             (.seq
              (.seq
               (.ops [
                 ⟨(some 105), .op (.mv), [.r 6], none⟩,
                 ⟨(some 106), .op (.bin .neq .num), [.r 105, .k (.p (.int .i64 0))], none⟩,
                 ⟨(some 107), .op (.mv), [.r 106], none⟩,
                 ⟨(some 108), .op (.mv), [.r 13], (some (107, false))⟩,
                 ⟨(some 109), .op (.pick), [.r 107, .k (.p (.bool true)), .r 108], none⟩] (some [4, 5, 7, 109]))
               (.cond (.r 109)
                (.seq
                 (.ops [
                   ⟨(some 2), .op (.mv), [.k (.p (.bool false))], none⟩] (some [2]))
                 .ret)
                .skip))
              (.seq
               (.seq
                (.ops [
                  ⟨(some 110), .op (.fa 3), [.r 4], none⟩,
                  ⟨(some 111), .op (.ld none), [.r 110], none⟩,
                  ⟨(some 112), .op (.mv), [.k (.p (.int .i64 0))], none⟩] (some [5, 7, 111, 112]))
                (.block 4
                 (.loop (some [5, 7, 111, 112]) ir_5_l0)))
               (.seq
                (.ops [
                  ⟨(some 120), .op (.mv), [.r 5], none⟩,
                  ⟨(some 121), .op (.mv), [.r 7], none⟩,
                  ⟨(some 122), .call 27, [.r 120, .r 121], none⟩,
                  ⟨(some 119), .op (.mv), [.r 122], none⟩,
                  ⟨(some 123), .op (.ext 0), [.r 119], none⟩,
                  ⟨(some 124), .op (.ext 1), [.r 119], none⟩,
                  ⟨(some 14), .op (.mv), [.r 123], none⟩,
                  ⟨(some 6), .op (.mv), [.r 124], none⟩] (some [6, 14]))
                (.seq
                 (.ops [
                   ⟨(some 125), .op (.mv), [.r 6], none⟩,
                   ⟨(some 126), .op (.bin .eql .num), [.r 125, .k (.p (.int .i64 0))], none⟩,
                   ⟨(some 127), .op (.mv), [.r 126], none⟩,
                   ⟨(some 128), .op (.mv), [.r 14], (some (127, true))⟩,
                   ⟨(some 129), .op (.bin .eql .num), [.r 128, .k (.p (.int .i64 0))], (some (127, true))⟩,
                   ⟨(some 130), .op (.pick), [.r 127, .r 129, .k (.p (.bool false))], none⟩,
                   ⟨(some 131), .op (.mv), [.r 130], none⟩,
                   ⟨(some 132), .callP 16, [], (some (131, true))⟩,
                   ⟨(some 133), .op (.pick), [.r 131, .r 132, .k (.p (.bool false))], none⟩,
                   ⟨(some 2), .op (.mv), [.r 133], none⟩] (some [2]))
                 .ret))))))))))))))))⟩
theorem tr_5 : trFn Go.Proofs.Tryz.prog h_5 Go.Proofs.Tryz.f5 = some ir_5 := by kernel_rfl
theorem walk_5 {args : List RV} {S : Mem} {Q : RV → Mem → Prop} (hS : S.loc = []) (ha : args.length ≤ 134) (h : fnF false Go.Proofs.Tryz.prog ir_5 args S Q) : SC Go.Proofs.Tryz.prog 5 args S Q := SC.walk mix Go.Proofs.Tryz.func5 tr_5 hS ha h
/- gatewarden/upstream.NewSwitch -/
def h_24 : FHint := hn [24] [] [] [(0, [1]), (1, [1, 21]), (2, [2, 3]), (3, [2, 3])] []
def ir_24 : IFun := ⟨25, [.t 2, .t 3],
 (.seq
  (.ops [
    ⟨(some 1), .op (.boxL 1), [.r 0], none⟩,
    ⟨(some 2), .op (.mv), [.k (.p .nilp)], none⟩,
    ⟨(some 3), .op (.mv), [.k (.p (.int .i64 0))], none⟩] (some [1]))
  (.seq
   (.seq
    (.ops [
      ⟨(some 4), .op (.fa 0), [.r 1], none⟩,
      ⟨(some 5), .op (.ld none), [.r 4], none⟩,
      ⟨(some 6), .callP 65, [.r 5, .k (.p (.int .i64 1)), .k (.p (.int .i64 100))], none⟩,
      ⟨(some 7), .op (.mv), [.r 6], none⟩,
      ⟨(some 8), .op (.fa 3), [.r 1], (some (7, false))⟩,
      ⟨(some 9), .op (.ld none), [.r 8], (some (7, false))⟩,
      ⟨(some 10), .callP 65, [.r 9, .k (.p (.int .i64 1)), .k (.p (.int .i64 100))], (some (7, false))⟩,
      ⟨(some 11), .op (.pick), [.r 7, .k (.p (.bool true)), .r 10], none⟩,
      ⟨(some 12), .op (.mv), [.r 11], none⟩,
      ⟨(some 13), .op (.fa 1), [.r 1], (some (12, false))⟩,
      ⟨(some 14), .op (.ld none), [.r 13], (some (12, false))⟩,
      ⟨(some 15), .callP 65, [.r 14, .k (.p (.int .i64 1)), .k (.p (.int .i64 3600000))], (some (12, false))⟩,
      ⟨(some 16), .op (.pick), [.r 12, .k (.p (.bool true)), .r 15], none⟩,
      ⟨(some 17), .op (.mv), [.r 16], none⟩,
      ⟨(some 18), .op (.fa 2), [.r 1], (some (17, false))⟩,
      ⟨(some 19), .op (.ld none), [.r 18], (some (17, false))⟩,
      ⟨(some 20), .callP 65, [.r 19, .k (.p (.int .i64 1)), .k (.p (.int .i64 3600000))], (some (17, false))⟩,
      ⟨(some 21), .op (.pick), [.r 17, .k (.p (.bool true)), .r 20], none⟩] (some [1, 21]))
    (.cond (.r 21)
     (.seq
      (.ops [
        ⟨(some 2), .op (.mv), [.k (.p .nilp)], none⟩,
        ⟨(some 3), .op (.mv), [.k (.p (.int .i64 1))], none⟩] (some [2, 3]))
      .ret)
     .skip))
   (.seq
    (.ops [
      ⟨(some 22), .op (.ld (some 4)), [.r 1], none⟩,
      ⟨(some 23), .op (.build [(.p (.int .i64 0)), (.p (.int .i64 0)), (.p (.int .i64 0)), (.p (.int .i64 0)), (.p (.int .i64 0)), (.p (.int .i64 0)), (.p (.int .i64 0)), (.nsl true), (.p (.int .i64 0)), (.p (.int .i64 0))] [(0, 4), (4, 1), (5, 1), (6, 1), (7, 1), (8, 1), (9, 1)] [0]), [.r 22], none⟩,
      ⟨(some 24), .op (.boxH 153), [.r 23], none⟩,
      ⟨(some 2), .op (.mv), [.r 24], none⟩,
      ⟨(some 3), .op (.mv), [.k (.p (.int .i64 0))], none⟩] (some [2, 3]))
    .ret)))⟩
theorem tr_24 : trFn Go.Proofs.Tryz.prog h_24 Go.Proofs.Tryz.f24 = some ir_24 := by kernel_rfl
theorem walk_24 {args : List RV} {S : Mem} {Q : RV → Mem → Prop} (hS : S.loc = []) (ha : args.length ≤ 25) (h : fnF false Go.Proofs.Tryz.prog ir_24 args S Q) : SC Go.Proofs.Tryz.prog 24 args S Q := SC.walk mix Go.Proofs.Tryz.func24 tr_24 hS ha h
/- (*gatewarden/upstream.Switch).timeFault -/
def h_80 : FHint := hn [] [] [] [(0, [0, 1]), (1, [0, 1, 7]), (2, [4]), (3, [13]), (4, [4]), (5, [4])] []
def ir_80 : IFun := ⟨14, [.t 4],
 (.seq
  (.ops [
    ⟨(some 4), .op (.mv), [.k (.p (.int .i64 0))], none⟩] (some [0, 1]))
  (.seq
   (.seq
    (.ops [
      ⟨(some 5), .op (.mv), [.r 1], none⟩,
      ⟨(some 6), .callP 96, [.r 5], none⟩,
      ⟨(some 7), .op (.un .not), [.r 6], none⟩] (some [0, 1, 7]))
    (.cond (.r 7)
     (.seq
      (.ops [
        ⟨(some 4), .op (.mv), [.k (.p (.int .i64 1))], none⟩] (some [4]))
      .ret)
     .skip))
   (.seq
    (.seq
     (.ops [
       ⟨(some 8), .op (.mv), [.r 1], none⟩,
       ⟨(some 9), .op (.mv), [.r 0], none⟩,
       ⟨(some 10), .op (.nilchk), [.r 9], none⟩,
       ⟨(some 11), .op (.fa 4), [.r 10], none⟩,
       ⟨(some 12), .op (.ld none), [.r 11], none⟩,
       ⟨(some 13), .op (.bin .lss .num), [.r 8, .r 12], none⟩] (some [13]))
     (.cond (.r 13)
      (.seq
       (.ops [
         ⟨(some 4), .op (.mv), [.k (.p (.int .i64 7))], none⟩] (some [4]))
       .ret)
      .skip))
    (.seq
     (.ops [
       ⟨(some 4), .op (.mv), [.k (.p (.int .i64 0))], none⟩] (some [4]))
     .ret))))⟩
theorem tr_80 : trFn Go.Proofs.Tryz.prog h_80 Go.Proofs.Tryz.f80 = some ir_80 := by kernel_rfl
theorem walk_80 {args : List RV} {S : Mem} {Q : RV → Mem → Prop} (hS : S.loc = []) (ha : args.length ≤ 14) (h : fnF false Go.Proofs.Tryz.prog ir_80 args S Q) : SC Go.Proofs.Tryz.prog 80 args S Q := SC.walk mix Go.Proofs.Tryz.func80 tr_80 hS ha h
/- (*gatewarden/upstream.Switch).stateAt -/
def h_85 : FHint := hn [] [] [] [(0, [0, 1]), (1, [0, 23]), (2, [4]), (3, [4])] []
def ir_85 : IFun := ⟨28, [.t 4],
 (.seq
  (.ops [
    ⟨(some 4), .op (.mv), [.k (.p (.int .i64 0))], none⟩] (some [0, 1]))
  (.seq
   (.seq
    (.opsD [
      ⟨(some 5), .op (.mv), [.r 0], none⟩,
      ⟨(some 6), .op (.nilchk), [.r 5], none⟩,
      ⟨(some 7), .op (.fa 5), [.r 6], none⟩,
      ⟨(some 8), .op (.ld none), [.r 7], none⟩,
      ⟨(some 9), .op (.bin .eql .num), [.r 8, .k (.p (.int .i64 1))], none⟩,
      ⟨(some 10), .op (.mv), [.r 9], none⟩,
      ⟨(some 11), .op (.mv), [.r 1], (some (10, true))⟩,
      ⟨(some 12), .op (.mv), [.r 0], (some (10, true))⟩,
      ⟨(some 13), .op (.nilchk), [.r 12], (some (10, true))⟩,
      ⟨(some 14), .op (.fa 6), [.r 13], (some (10, true))⟩,
      ⟨(some 15), .op (.ld none), [.r 14], (some (10, true))⟩,
      ⟨(some 16), .op (.mv), [.r 0], (some (10, true))⟩,
      ⟨(some 17), .op (.nilchk), [.r 16], (some (10, true))⟩,
      ⟨(some 18), .op (.fa 0), [.r 17], (some (10, true))⟩,
      ⟨(some 19), .op (.fa 2), [.r 18], (some (10, true))⟩,
      ⟨(some 20), .op (.ld none), [.r 19], (some (10, true))⟩,
      ⟨(some 21), .op (.bin .add .num), [.r 15, .r 20], (some (10, true))⟩,
      ⟨(some 22), .op (.bin .geq .num), [.r 11, .r 21], (some (10, true))⟩,
      ⟨(some 23), .op (.pick), [.r 10, .r 22, .k (.p (.bool false))], none⟩] [] (some [0, 23]))
    (.cond (.r 23)
     (.seq
      (.ops [
        ⟨(some 4), .op (.mv), [.k (.p (.int .i64 2))], none⟩] (some [4]))
      .ret)
     .skip))
   (.seq
    (.ops [
      ⟨(some 24), .op (.mv), [.r 0], none⟩,
      ⟨(some 25), .op (.nilchk), [.r 24], none⟩,
      ⟨(some 26), .op (.fa 5), [.r 25], none⟩,
      ⟨(some 27), .op (.ld none), [.r 26], none⟩,
      ⟨(some 4), .op (.mv), [.r 27], none⟩] (some [4]))
    .ret)))⟩
theorem tr_85 : trFn Go.Proofs.Tryz.prog h_85 Go.Proofs.Tryz.f85 = some ir_85 := by kernel_rfl
theorem walk_85 {args : List RV} {S : Mem} {Q : RV → Mem → Prop} (hS : S.loc = []) (ha : args.length ≤ 28) (h : fnF false Go.Proofs.Tryz.prog ir_85 args S Q) : SC Go.Proofs.Tryz.prog 85 args S Q := SC.walk mix Go.Proofs.Tryz.func85 tr_85 hS ha h
/- (*gatewarden/upstream.Switch).pass -/
def h_81 : FHint := hn [] [] [] [(0, [0, 1, 4]), (1, [0, 1, 4, 13]), (2, [0, 1]), (3, [])] []
def ir_81 : IFun := ⟨28, [],
 (.seq
  (.seq
   (.ops [
     ⟨(some 5), .op (.mv), [.r 0], none⟩,
     ⟨(some 6), .op (.mv), [.r 1], none⟩,
     ⟨(some 7), .call 85, [.r 5, .r 6], none⟩,
     ⟨(some 4), .op (.mv), [.r 7], none⟩] (some [0, 1, 4]))
   (.seq
    (.ops [
      ⟨(some 8), .op (.mv), [.r 4], none⟩,
      ⟨(some 9), .op (.mv), [.r 0], none⟩,
      ⟨(some 10), .op (.nilchk), [.r 9], none⟩,
      ⟨(some 11), .op (.fa 5), [.r 10], none⟩,
      ⟨(some 12), .op (.ld none), [.r 11], none⟩,
      ⟨(some 13), .op (.bin .neq .num), [.r 8, .r 12], none⟩] (some [0, 1, 4, 13]))
    (.cond (.r 13)
     (.ops [
       ⟨(some 14), .op (.mv), [.r 0], none⟩,
       ⟨(some 15), .op (.mv), [.r 0], none⟩,
       ⟨(some 16), .op (.mv), [.r 0], none⟩,
       ⟨(some 17), .op (.mv), [.r 4], none⟩,
       ⟨(some 18), .op (.nilchk), [.r 14], none⟩,
       ⟨(some 19), .op (.fa 5), [.r 18], none⟩,
       ⟨none, .op (.st 1), [.r 19, .r 17], none⟩,
       ⟨(some 20), .op (.nilchk), [.r 15], none⟩,
       ⟨(some 21), .op (.fa 8), [.r 20], none⟩,
       ⟨none, .op (.st 1), [.r 21, .k (.p (.int .i64 0))], none⟩,
       ⟨(some 22), .op (.nilchk), [.r 16], none⟩,
       ⟨(some 23), .op (.fa 9), [.r 22], none⟩,
       ⟨none, .op (.st 1), [.r 23, .k (.p (.int .i64 0))], none⟩] (some [0, 1]))
     .skip)))
  (.ops [
    ⟨(some 24), .op (.mv), [.r 0], none⟩,
    ⟨(some 25), .op (.mv), [.r 1], none⟩,
    ⟨(some 26), .op (.nilchk), [.r 24], none⟩,
    ⟨(some 27), .op (.fa 4), [.r 26], none⟩,
    ⟨none, .op (.st 1), [.r 27, .r 25], none⟩] (some [])))⟩
theorem tr_81 : trFn Go.Proofs.Tryz.prog h_81 Go.Proofs.Tryz.f81 = some ir_81 := by kernel_rfl
theorem walk_81 {args : List RV} {S : Mem} {Q : RV → Mem → Prop} (hS : S.loc = []) (ha : args.length ≤ 28) (h : fnF false Go.Proofs.Tryz.prog ir_81 args S Q) : SC Go.Proofs.Tryz.prog 81 args S Q := SC.walk mix Go.Proofs.Tryz.func81 tr_81 hS ha h
/- (*gatewarden/upstream.Switch).Ask -/
def h_25 : FHint := hn [] [] [] [(0, [0, 1]), (1, [0, 1, 6]), (2, [0, 1, 6, 11]), (3, [4, 5]), (4, [0]), (5, [0, 32]), (6, []), (7, [4, 5]), (8, [4, 5])] []
def ir_25 : IFun := ⟨45, [.t 4, .t 5],
 (.seq
  (.ops [
    ⟨(some 4), .op (.mv), [.k (.p (.bool false))], none⟩,
    ⟨(some 5), .op (.mv), [.k (.p (.int .i64 0))], none⟩] (some [0, 1]))
  (.seq
   (.seq
    (.ops [
      ⟨(some 7), .op (.mv), [.r 0], none⟩,
      ⟨(some 8), .op (.mv), [.r 1], none⟩,
      ⟨(some 9), .call 80, [.r 7, .r 8], none⟩,
      ⟨(some 6), .op (.mv), [.r 9], none⟩] (some [0, 1, 6]))
    (.seq
     (.ops [
       ⟨(some 10), .op (.mv), [.r 6], none⟩,
       ⟨(some 11), .op (.bin .neq .num), [.r 10, .k (.p (.int .i64 0))], none⟩] (some [0, 1, 6, 11]))
     (.cond (.r 11)
      (.seq
       (.ops [
         ⟨(some 12), .op (.mv), [.r 6], none⟩,
         ⟨(some 4), .op (.mv), [.k (.p (.bool false))], none⟩,
         ⟨(some 5), .op (.mv), [.r 12], none⟩] (some [4, 5]))
       .ret)
      .skip)))
   (.seq
    (.ops [
      ⟨(some 13), .op (.mv), [.r 0], none⟩,
      ⟨(some 14), .op (.mv), [.r 1], none⟩,
      ⟨(some 15), .call 81, [.r 13, .r 14], none⟩] (some [0]))
    (.seq
     (.seq
      (.opsD [
        ⟨(some 16), .op (.mv), [.r 0], none⟩,
        ⟨(some 17), .op (.nilchk), [.r 16], none⟩,
        ⟨(some 18), .op (.fa 5), [.r 17], none⟩,
        ⟨(some 19), .op (.ld none), [.r 18], none⟩,
        ⟨(some 20), .op (.bin .eql .num), [.r 19, .k (.p (.int .i64 2))], none⟩,
        ⟨(some 21), .op (.mv), [.r 20], none⟩,
        ⟨(some 22), .op (.mv), [.r 0], (some (21, true))⟩,
        ⟨(some 23), .op (.nilchk), [.r 22], (some (21, true))⟩,
        ⟨(some 24), .op (.fa 8), [.r 23], (some (21, true))⟩,
        ⟨(some 25), .op (.ld none), [.r 24], (some (21, true))⟩,
        ⟨(some 26), .op (.mv), [.r 0], (some (21, true))⟩,
        ⟨(some 27), .op (.nilchk), [.r 26], (some (21, true))⟩,
        ⟨(some 28), .op (.fa 0), [.r 27], (some (21, true))⟩,
        ⟨(some 29), .op (.fa 3), [.r 28], (some (21, true))⟩,
        ⟨(some 30), .op (.ld none), [.r 29], (some (21, true))⟩,
        ⟨(some 31), .op (.bin .lss .num), [.r 25, .r 30], (some (21, true))⟩,
        ⟨(some 32), .op (.pick), [.r 21, .r 31, .k (.p (.bool false))], none⟩] [] (some [0, 32]))
      (.cond (.r 32)
       (.seq
        (.ops [
          ⟨(some 33), .op (.mv), [.r 0], none⟩,
          ⟨(some 34), .op (.nilchk), [.r 33], none⟩,
          ⟨(some 35), .op (.fa 8), [.r 34], none⟩,
          ⟨(some 36), .op (.ld none), [.r 35], none⟩,
          ⟨(some 37), .op (.bin .add .num), [.r 36, .k (.p (.int .i64 1))], none⟩,
          ⟨(some 38), .op (.nilchk), [.r 33], none⟩,
          ⟨(some 39), .op (.fa 8), [.r 38], none⟩,
          ⟨none, .op (.st 1), [.r 39, .r 37], none⟩] (some []))
        (.seq
         (.ops [
           ⟨(some 4), .op (.mv), [.k (.p (.bool true))], none⟩,
           ⟨(some 5), .op (.mv), [.k (.p (.int .i64 0))], none⟩] (some [4, 5]))
         .ret))
       .skip))
     (.seq
      (.ops [
        ⟨(some 40), .op (.mv), [.r 0], none⟩,
        ⟨(some 41), .op (.nilchk), [.r 40], none⟩,
        ⟨(some 42), .op (.fa 5), [.r 41], none⟩,
        ⟨(some 43), .op (.ld none), [.r 42], none⟩,
        ⟨(some 44), .op (.bin .eql .num), [.r 43, .k (.p (.int .i64 0))], none⟩,
        ⟨(some 4), .op (.mv), [.r 44], none⟩,
        ⟨(some 5), .op (.mv), [.k (.p (.int .i64 0))], none⟩] (some [4, 5]))
      .ret)))))⟩
theorem tr_25 : trFn Go.Proofs.Tryz.prog h_25 Go.Proofs.Tryz.f25 = some ir_25 := by kernel_rfl
theorem walk_25 {args : List RV} {S : Mem} {Q : RV → Mem → Prop} (hS : S.loc = []) (ha : args.length ≤ 45) (h : fnF false Go.Proofs.Tryz.prog ir_25 args S Q) : SC Go.Proofs.Tryz.prog 25 args S Q := SC.walk mix Go.Proofs.Tryz.func25 tr_25 hS ha h
/- (*gatewarden/upstream.Switch).trip -/
def h_82 : FHint := hn [] [] [] [(0, [])] []
def ir_82 : IFun := ⟨14, [],
 (.ops [
   ⟨(some 4), .op (.mv), [.r 0], none⟩,
   ⟨(some 5), .op (.mv), [.r 0], none⟩,
   ⟨(some 6), .op (.mv), [.r 0], none⟩,
   ⟨(some 7), .op (.mv), [.r 1], none⟩,
   ⟨(some 8), .op (.nilchk), [.r 4], none⟩,
   ⟨(some 9), .op (.fa 5), [.r 8], none⟩,
   ⟨none, .op (.st 1), [.r 9, .k (.p (.int .i64 1))], none⟩,
   ⟨(some 10), .op (.nilchk), [.r 5], none⟩,
   ⟨(some 11), .op (.fa 6), [.r 10], none⟩,
   ⟨none, .op (.st 1), [.r 11, .r 7], none⟩,
   ⟨(some 12), .op (.nilchk), [.r 6], none⟩,
   ⟨(some 13), .op (.fa 7), [.r 12], none⟩,
   ⟨none, .op (.st 1), [.r 13, .k (.nsl true)], none⟩] (some []))⟩
theorem tr_82 : trFn Go.Proofs.Tryz.prog h_82 Go.Proofs.Tryz.f82 = some ir_82 := by kernel_rfl
theorem walk_82 {args : List RV} {S : Mem} {Q : RV → Mem → Prop} (hS : S.loc = []) (ha : args.length ≤ 14) (h : fnF false Go.Proofs.Tryz.prog ir_82 args S Q) : SC Go.Proofs.Tryz.prog 82 args S Q := SC.walk mix Go.Proofs.Tryz.func82 tr_82 hS ha h
/- (*gatewarden/upstream.Switch).Tell -/
def h_26 : FHint := hn [3, 4] [] [] [(0, [2, 3, 4]), (1, [2, 3, 4, 7]), (2, [2, 3, 4, 7, 12]), (3, [6]), (4, [2, 3, 4]), (5, [2, 3, 4, 17]), (7, [2, 3, 4, 30]), (11, [3, 4, 56]), (12, [3, 4]), (13, [3, 4, 88]), (14, []), (8, [3]), (9, [3, 52]), (10, []), (6, []), (15, [6])] []
def ir_26 : IFun := ⟨92, [.t 6],
 (.seq
  (.ops [
    ⟨(some 3), .op (.boxH 52), [.r 0], none⟩,
    ⟨(some 4), .op (.boxH 3), [.r 1], none⟩,
    ⟨(some 6), .op (.mv), [.k (.p (.int .i64 0))], none⟩] (some [2, 3, 4]))
  (.seq
   (.seq
    (.ops [
      ⟨(some 8), .op (.ld none), [.r 3], none⟩,
      ⟨(some 9), .op (.ld none), [.r 4], none⟩,
      ⟨(some 10), .call 80, [.r 8, .r 9], none⟩,
      ⟨(some 7), .op (.mv), [.r 10], none⟩] (some [2, 3, 4, 7]))
    (.seq
     (.ops [
       ⟨(some 11), .op (.mv), [.r 7], none⟩,
       ⟨(some 12), .op (.bin .neq .num), [.r 11, .k (.p (.int .i64 0))], none⟩] (some [2, 3, 4, 7, 12]))
     (.cond (.r 12)
      (.seq
       (.ops [
         ⟨(some 13), .op (.mv), [.r 7], none⟩,
         ⟨(some 6), .op (.mv), [.r 13], none⟩] (some [6]))
       .ret)
      .skip)))
   (.seq
    (.ops [
      ⟨(some 14), .op (.ld none), [.r 3], none⟩,
      ⟨(some 15), .op (.ld none), [.r 4], none⟩,
      ⟨(some 16), .call 81, [.r 14, .r 15], none⟩] (some [2, 3, 4]))
    (.seq
     (.block 0
      (.seq
       (.ops [
         ⟨(some 18), .op (.ld none), [.r 3], none⟩,
         ⟨(some 19), .op (.nilchk), [.r 18], none⟩,
         ⟨(some 20), .op (.fa 5), [.r 19], none⟩,
         ⟨(some 21), .op (.ld none), [.r 20], none⟩,
         ⟨(some 22), .op (.bin .eql .num), [.r 21, .k (.p (.int .i64 2))], none⟩,
         ⟨(some 23), .op (.mv), [.r 22], none⟩,
         ⟨(some 24), .op (.mv), [.r 2], (some (23, true))⟩,
         ⟨(some 25), .op (.un .not), [.r 24], (some (23, true))⟩,
         ⟨(some 26), .op (.pick), [.r 23, .r 25, .k (.p (.bool false))], none⟩,
         ⟨(some 17), .op (.mv), [.r 26], none⟩] (some [2, 3, 4, 17]))
       (.cond (.r 17)
        (.ops [
          ⟨(some 27), .op (.ld none), [.r 3], none⟩,
          ⟨(some 28), .op (.ld none), [.r 4], none⟩,
          ⟨(some 29), .call 82, [.r 27, .r 28], none⟩] (some []))
        (.seq
         (.ops [
           ⟨(some 31), .op (.ld none), [.r 3], none⟩,
           ⟨(some 32), .op (.nilchk), [.r 31], none⟩,
           ⟨(some 33), .op (.fa 5), [.r 32], none⟩,
           ⟨(some 34), .op (.ld none), [.r 33], none⟩,
           ⟨(some 35), .op (.bin .eql .num), [.r 34, .k (.p (.int .i64 2))], none⟩,
           ⟨(some 30), .op (.mv), [.r 35], none⟩] (some [2, 3, 4, 30]))
         (.cond (.r 30)
          (.seq
           (.ops [
             ⟨(some 36), .op (.ld none), [.r 3], none⟩,
             ⟨(some 37), .op (.nilchk), [.r 36], none⟩,
             ⟨(some 38), .op (.fa 9), [.r 37], none⟩,
             ⟨(some 39), .op (.ld none), [.r 38], none⟩,
             ⟨(some 40), .op (.bin .add .num), [.r 39, .k (.p (.int .i64 1))], none⟩,
             ⟨(some 41), .op (.nilchk), [.r 36], none⟩,
             ⟨(some 42), .op (.fa 9), [.r 41], none⟩,
             ⟨none, .op (.st 1), [.r 42, .r 40], none⟩] (some [3]))
           (.seq
            (.opsD [
              ⟨(some 43), .op (.ld none), [.r 3], none⟩,
              ⟨(some 44), .op (.nilchk), [.r 43], none⟩,
              ⟨(some 45), .op (.fa 9), [.r 44], none⟩,
              ⟨(some 46), .op (.ld none), [.r 45], none⟩,
              ⟨(some 47), .op (.ld none), [.r 3], none⟩,
              ⟨(some 48), .op (.nilchk), [.r 47], none⟩,
              ⟨(some 49), .op (.fa 0), [.r 48], none⟩,
              ⟨(some 50), .op (.fa 3), [.r 49], none⟩,
              ⟨(some 51), .op (.ld none), [.r 50], none⟩,
              ⟨(some 52), .op (.bin .eql .num), [.r 46, .r 51], none⟩] [] (some [3, 52]))
            (.cond (.r 52)
             (.ops [
               ⟨(some 53), .op (.ld none), [.r 3], none⟩,
               ⟨(some 54), .op (.nilchk), [.r 53], none⟩,
               ⟨(some 55), .op (.fa 5), [.r 54], none⟩,
               ⟨none, .op (.st 1), [.r 55, .k (.p (.int .i64 0))], none⟩] (some []))
             .skip)))
          (.seq
           (.ops [
             ⟨(some 57), .op (.ld none), [.r 3], none⟩,
             ⟨(some 58), .op (.nilchk), [.r 57], none⟩,
             ⟨(some 59), .op (.fa 5), [.r 58], none⟩,
             ⟨(some 60), .op (.ld none), [.r 59], none⟩,
             ⟨(some 61), .op (.bin .eql .num), [.r 60, .k (.p (.int .i64 0))], none⟩,
             ⟨(some 62), .op (.mv), [.r 61], none⟩,
             ⟨(some 63), .op (.mv), [.r 2], (some (62, true))⟩,
             ⟨(some 64), .op (.un .not), [.r 63], (some (62, true))⟩,
             ⟨(some 65), .op (.pick), [.r 62, .r 64, .k (.p (.bool false))], none⟩,
             ⟨(some 56), .op (.mv), [.r 65], none⟩] (some [3, 4, 56]))
           (.cond (.r 56)
            (.seq
             (.opsD [
               ⟨(some 66), .op (.ld none), [.r 3], none⟩,
               ⟨(some 67), .op (.ld none), [.r 3], none⟩,
               ⟨(some 68), .op (.nilchk), [.r 67], none⟩,
               ⟨(some 69), .op (.fa 7), [.r 68], none⟩,
               ⟨(some 70), .op (.ld none), [.r 69], none⟩,
               ⟨(some 71), .op (.ld none), [.r 4], none⟩,
               ⟨(some 72), .op (.bsl 1), [.r 71], none⟩,
               ⟨(some 73), .op (.app 1 3 8 false), [.r 70, .r 72], none⟩,
               ⟨(some 74), .op (.mkfn 84 0), [.r 4, .r 3], none⟩,
               ⟨(some 75), .call 83, [.r 73, .r 74], none⟩,
               ⟨(some 76), .op (.nilchk), [.r 66], none⟩,
               ⟨(some 77), .op (.fa 7), [.r 76], none⟩,
               ⟨none, .op (.st 1), [.r 77, .r 75], none⟩] [(0, 7), (0, 9)] (some [3, 4]))
             (.seq
              (.opsD [
                ⟨(some 78), .op (.ld none), [.r 3], none⟩,
                ⟨(some 79), .op (.nilchk), [.r 78], none⟩,
                ⟨(some 80), .op (.fa 7), [.r 79], none⟩,
                ⟨(some 81), .op (.ld none), [.r 80], none⟩,
                ⟨(some 82), .op (.lenl), [.r 81], none⟩,
                ⟨(some 83), .op (.ld none), [.r 3], none⟩,
                ⟨(some 84), .op (.nilchk), [.r 83], none⟩,
                ⟨(some 85), .op (.fa 0), [.r 84], none⟩,
                ⟨(some 86), .op (.fa 0), [.r 85], none⟩,
                ⟨(some 87), .op (.ld none), [.r 86], none⟩,
                ⟨(some 88), .op (.bin .geq .num), [.r 82, .r 87], none⟩] [] (some [3, 4, 88]))
              (.cond (.r 88)
               (.ops [
                 ⟨(some 89), .op (.ld none), [.r 3], none⟩,
                 ⟨(some 90), .op (.ld none), [.r 4], none⟩,
                 ⟨(some 91), .call 82, [.r 89, .r 90], none⟩] (some []))
               .skip)))
            .skip)))))))
     (.seq
      (.ops [
        ⟨(some 6), .op (.mv), [.k (.p (.int .i64 0))], none⟩] (some [6]))
      .ret)))))⟩
theorem tr_26 : trFn Go.Proofs.Tryz.prog h_26 Go.Proofs.Tryz.f26 = some ir_26 := by kernel_rfl
theorem walk_26 {args : List RV} {S : Mem} {Q : RV → Mem → Prop} (hS : S.loc = []) (ha : args.length ≤ 92) (h : fnF false Go.Proofs.Tryz.prog ir_26 args S Q) : SC Go.Proofs.Tryz.prog 26 args S Q := SC.walk mix Go.Proofs.Tryz.func26 tr_26 hS ha h
/- (*gatewarden/upstream.Switch).State -/
def h_27 : FHint := hn [] [] [] [(0, [0, 1]), (1, [0, 1, 6]), (2, [0, 1, 6, 11]), (3, [4, 5]), (4, [4, 5])] []
def ir_27 : IFun := ⟨16, [.t 4, .t 5],
 (.seq
  (.ops [
    ⟨(some 4), .op (.mv), [.k (.p (.int .i64 0))], none⟩,
    ⟨(some 5), .op (.mv), [.k (.p (.int .i64 0))], none⟩] (some [0, 1]))
  (.seq
   (.seq
    (.ops [
      ⟨(some 7), .op (.mv), [.r 0], none⟩,
      ⟨(some 8), .op (.mv), [.r 1], none⟩,
      ⟨(some 9), .call 80, [.r 7, .r 8], none⟩,
      ⟨(some 6), .op (.mv), [.r 9], none⟩] (some [0, 1, 6]))
    (.seq
     (.ops [
       ⟨(some 10), .op (.mv), [.r 6], none⟩,
       ⟨(some 11), .op (.bin .neq .num), [.r 10, .k (.p (.int .i64 0))], none⟩] (some [0, 1, 6, 11]))
     (.cond (.r 11)
      (.seq
       (.ops [
         ⟨(some 12), .op (.mv), [.r 6], none⟩,
         ⟨(some 4), .op (.mv), [.k (.p (.int .i64 0))], none⟩,
         ⟨(some 5), .op (.mv), [.r 12], none⟩] (some [4, 5]))
       .ret)
      .skip)))
   (.seq
    (.ops [
      ⟨(some 13), .op (.mv), [.r 0], none⟩,
      ⟨(some 14), .op (.mv), [.r 1], none⟩,
      ⟨(some 15), .call 85, [.r 13, .r 14], none⟩,
      ⟨(some 4), .op (.mv), [.r 15], none⟩,
      ⟨(some 5), .op (.mv), [.k (.p (.int .i64 0))], none⟩] (some [4, 5]))
    .ret)))⟩
theorem tr_27 : trFn Go.Proofs.Tryz.prog h_27 Go.Proofs.Tryz.f27 = some ir_27 := by kernel_rfl
theorem walk_27 {args : List RV} {S : Mem} {Q : RV → Mem → Prop} (hS : S.loc = []) (ha : args.length ≤ 16) (h : fnF false Go.Proofs.Tryz.prog ir_27 args S Q) : SC Go.Proofs.Tryz.prog 27 args S Q := SC.walk mix Go.Proofs.Tryz.func27 tr_27 hS ha h
/- (*gatewarden/upstream.Switch).Tell$1 -/
def h_84 : FHint := hn [] [] [] [(0, [0, 1, 2]), (1, [4])] []
def ir_84 : IFun := ⟨14, [.t 4],
 (.seq
  (.ops [
    ⟨(some 4), .op (.mv), [.k (.p (.bool false))], none⟩] (some [0, 1, 2]))
  (.seq
   (.opsD [
     ⟨(some 5), .op (.mv), [.r 0], none⟩,
     ⟨(some 6), .op (.ld none), [.r 1], none⟩,
     ⟨(some 7), .op (.ld none), [.r 2], none⟩,
     ⟨(some 8), .op (.nilchk), [.r 7], none⟩,
     ⟨(some 9), .op (.fa 0), [.r 8], none⟩,
     ⟨(some 10), .op (.fa 1), [.r 9], none⟩,
     ⟨(some 11), .op (.ld none), [.r 10], none⟩,
     ⟨(some 12), .op (.bin .sub .num), [.r 6, .r 11], none⟩,
     ⟨(some 13), .op (.bin .leq .num), [.r 5, .r 12], none⟩,
     ⟨(some 4), .op (.mv), [.r 13], none⟩] [] (some [4]))
   .ret))⟩
theorem tr_84 : trFn Go.Proofs.Tryz.prog h_84 Go.Proofs.Tryz.f84 = some ir_84 := by kernel_rfl
theorem walk_84 {args : List RV} {S : Mem} {Q : RV → Mem → Prop} (hS : S.loc = []) (ha : args.length ≤ 14) (h : fnF false Go.Proofs.Tryz.prog ir_84 args S Q) : SC Go.Proofs.Tryz.prog 84 args S Q := SC.walk mix Go.Proofs.Tryz.func84 tr_84 hS ha h
/- slices.DeleteFunc[[]int,int] -/
def h_83 : FHint := hn [] [] [] [(0, [0, 1]), (1, [0, 1, 5]), (2, [0, 1, 5, 12]), (3, [4]), (4, [0, 1, 5, 6]), (5, [0, 1, 5, 6, 19]), (7, [0, 1, 5, 6, 7]), (8, [0, 1, 5, 6, 7, 29]), (9, [0, 1, 5, 6]), (10, [0, 1, 5, 6]), (6, [0, 1, 5, 6]), (11, [0, 5]), (12, [4])] [(5, [0, 1, 5, 6])]
def ir_83_l0 : IR :=
 (.seq
  (.seq
   (.ops [
     ⟨(some 16), .op (.mv), [.r 6], none⟩,
     ⟨(some 17), .op (.mv), [.r 0], none⟩,
     ⟨(some 18), .op (.lenl), [.r 17], none⟩,
     ⟨(some 19), .op (.bin .lss .num), [.r 16, .r 18], none⟩] (some [0, 1, 5, 6, 19]))
   (.cond (.r 19)
    .skip
    (.exit 0)))
  (.seq
   (.block 1
    (.seq
     (.ops [
       ⟨(some 22), .op (.mv), [.r 0], none⟩,
       ⟨(some 23), .op (.mv), [.r 6], none⟩,
       ⟨(some 24), .op (.ia 1), [.r 22, .r 23], none⟩,
       ⟨(some 25), .op (.ld none), [.r 24], none⟩,
       ⟨(some 7), .op (.mv), [.r 25], none⟩] (some [0, 1, 5, 6, 7]))
     (.seq
      (.ops [
        ⟨(some 26), .op (.mv), [.r 1], none⟩,
        ⟨(some 27), .op (.mv), [.r 7], none⟩,
        ⟨(some 28), .callv, [.r 26, .r 27], none⟩,
        ⟨(some 29), .op (.un .not), [.r 28], none⟩] (some [0, 1, 5, 6, 7, 29]))
      (.cond (.r 29)
       (.seq
        (.ops [
          ⟨(some 30), .op (.mv), [.r 0], none⟩,
          ⟨(some 31), .op (.mv), [.r 5], none⟩,
          ⟨(some 32), .op (.mv), [.r 7], none⟩,
          ⟨(some 33), .op (.ia 1), [.r 30, .r 31], none⟩,
          ⟨none, .op (.st 1), [.r 33, .r 32], none⟩] (some [0, 1, 5, 6]))
        (.ops [
          ⟨(some 34), .op (.mv), [.r 5], none⟩,
          ⟨(some 35), .op (.bin .add .num), [.r 34, .k (.p (.int .i64 1))], none⟩,
          ⟨(some 5), .op (.mv), [.r 35], none⟩] (some [0, 1, 5, 6])))
       .skip))))
   (.ops [
     ⟨(some 20), .op (.mv), [.r 6], none⟩,
     ⟨(some 21), .op (.bin .add .num), [.r 20, .k (.p (.int .i64 1))], none⟩,
     ⟨(some 6), .op (.mv), [.r 21], none⟩] (some [0, 1, 5, 6]))))
def ir_83 : IFun := ⟨42, [.t 4],
 (.seq
  (.ops [
    ⟨(some 4), .op (.mv), [.k (.nsl true)], none⟩] (some [0, 1]))
  (.seq
   (.ops [
     ⟨(some 8), .op (.mv), [.r 0], none⟩,
     ⟨(some 9), .op (.mv), [.r 1], none⟩,
     ⟨(some 10), .call 142, [.r 8, .r 9], none⟩,
     ⟨(some 5), .op (.mv), [.r 10], none⟩] (some [0, 1, 5]))
   (.seq
    (.seq
     (.ops [
       ⟨(some 11), .op (.mv), [.r 5], none⟩,
       ⟨(some 12), .op (.bin .eql .num), [.r 11, .k (.p (.int .i64 (-1)))], none⟩] (some [0, 1, 5, 12]))
     (.cond (.r 12)
      (.seq
       (.ops [
         ⟨(some 13), .op (.mv), [.r 0], none⟩,
         ⟨(some 4), .op (.mv), [.r 13], none⟩] (some [4]))
       .ret)
      .skip))
    (.seq
     (.seq
      (.ops [
        ⟨(some 14), .op (.mv), [.r 5], none⟩,
        ⟨(some 15), .op (.bin .add .num), [.r 14, .k (.p (.int .i64 1))], none⟩,
        ⟨(some 6), .op (.mv), [.r 15], none⟩] (some [0, 1, 5, 6]))
      (.block 0
       (.loop (some [0, 1, 5, 6]) ir_83_l0)))
     (.seq
      (.ops [
        ⟨(some 36), .op (.mv), [.r 0], none⟩,
        ⟨(some 37), .op (.mv), [.r 5], none⟩,
        ⟨(some 38), .op (.sll 1 true false), [.r 36, .r 37], none⟩,
        ⟨none, .op (.y (.clr 1 [(.p (.int .i64 0))])), [.r 38], none⟩] (some [0, 5]))
      (.seq
       (.ops [
         ⟨(some 39), .op (.mv), [.r 0], none⟩,
         ⟨(some 40), .op (.mv), [.r 5], none⟩,
         ⟨(some 41), .op (.sll 1 false true), [.r 39, .r 40], none⟩,
         ⟨(some 4), .op (.mv), [.r 41], none⟩] (some [4]))
       .ret))))))⟩
theorem tr_83 : trFn Go.Proofs.Tryz.prog h_83 Go.Proofs.Tryz.f83 = some ir_83 := by kernel_rfl
theorem walk_83 {args : List RV} {S : Mem} {Q : RV → Mem → Prop} (hS : S.loc = []) (ha : args.length ≤ 42) (h : fnF false Go.Proofs.Tryz.prog ir_83 args S Q) : SC Go.Proofs.Tryz.prog 83 args S Q := SC.walk mix Go.Proofs.Tryz.func83 tr_83 hS ha h
/- slices.IndexFunc[[]int,int] -/
def h_142 : FHint := hn [] [] [] [(0, [0, 1]), (1, [0, 1, 7, 8]), (2, [0, 1, 7, 8, 9]), (3, [0, 1, 5, 7, 8]), (4, [0, 1, 5, 7, 8, 16]), (5, [4]), (6, [0, 1, 7, 8]), (7, [4])] [(2, [0, 1, 7, 8])]
def ir_142_l0 : IR :=
 (.seq
  (.ops [
    ⟨(some 9), .op (.bin .lss .num), [.r 8, .r 7], none⟩] (some [0, 1, 7, 8, 9]))
  (.seq
   (.cond (.r 9)
    .skip
    (.exit 0))
   (.seq
    (.block 1
     (.seq
      (.ops [
        ⟨(some 10), .op (.mv), [.r 8], none⟩,
        ⟨(some 5), .op (.mv), [.r 10], none⟩] (some [0, 1, 5, 7, 8]))
      (.seq
       (.ops [
         ⟨(some 11), .op (.mv), [.r 1], none⟩,
         ⟨(some 12), .op (.mv), [.r 0], none⟩,
         ⟨(some 13), .op (.mv), [.r 5], none⟩,
         ⟨(some 14), .op (.ia 1), [.r 12, .r 13], none⟩,
         ⟨(some 15), .op (.ld none), [.r 14], none⟩,
         ⟨(some 16), .callv, [.r 11, .r 15], none⟩] (some [0, 1, 5, 7, 8, 16]))
       (.cond (.r 16)
        (.seq
         (.ops [
           ⟨(some 17), .op (.mv), [.r 5], none⟩,
           ⟨(some 4), .op (.mv), [.r 17], none⟩] (some [4]))
         .ret)
        .skip))))
    (.ops [
      ⟨(some 18), .op (.bin .add .num), [.r 8, .k (.p (.int .i64 1))], none⟩,
      ⟨(some 8), .op (.mv), [.r 18], none⟩] (some [0, 1, 7, 8])))))
def ir_142 : IFun := ⟨19, [.t 4],
 (.seq
  (.ops [
    ⟨(some 4), .op (.mv), [.k (.p (.int .i64 0))], none⟩] (some [0, 1]))
  (.seq
   (.seq
    (.ops [
      ⟨(some 6), .op (.mv), [.r 0], none⟩,
      ⟨(some 7), .op (.lenl), [.r 6], none⟩,
      ⟨(some 8), .op (.mv), [.k (.p (.int .i64 0))], none⟩] (some [0, 1, 7, 8]))
    (.block 0
     (.loop (some [0, 1, 7, 8]) ir_142_l0)))
   (.seq
    (.ops [
      ⟨(some 4), .op (.mv), [.k (.p (.int .i64 (-1)))], none⟩] (some [4]))
    .ret)))⟩
theorem tr_142 : trFn Go.Proofs.Tryz.prog h_142 Go.Proofs.Tryz.f142 = some ir_142 := by kernel_rfl
theorem walk_142 {args : List RV} {S : Mem} {Q : RV → Mem → Prop} (hS : S.loc = []) (ha : args.length ≤ 19) (h : fnF false Go.Proofs.Tryz.prog ir_142 args S Q) : SC Go.Proofs.Tryz.prog 142 args S Q := SC.walk mix Go.Proofs.Tryz.func142 tr_142 hS ha h
/- gatewarden/kit.IsMoment -/
def h_96 : FHint := hn [] [] [] [(0, [0]), (1, [2])] []
def ir_96 : IFun := ⟨9, [.t 2],
 (.seq
  (.ops [
    ⟨(some 2), .op (.mv), [.k (.p (.bool false))], none⟩] (some [0]))
  (.seq
   (.ops [
     ⟨(some 3), .op (.mv), [.r 0], none⟩,
     ⟨(some 4), .op (.bin .geq .num), [.r 3, .k (.p (.int .i64 0))], none⟩,
     ⟨(some 5), .op (.mv), [.r 4], none⟩,
     ⟨(some 6), .op (.mv), [.r 0], (some (5, true))⟩,
     ⟨(some 7), .op (.bin .lss .num), [.r 6, .k (.p (.int .i64 345686400000))], (some (5, true))⟩,
     ⟨(some 8), .op (.pick), [.r 5, .r 7, .k (.p (.bool false))], none⟩,
     ⟨(some 2), .op (.mv), [.r 8], none⟩] (some [2]))
   .ret))⟩
theorem tr_96 : trFn Go.Proofs.Tryz.prog h_96 Go.Proofs.Tryz.f96 = some ir_96 := by kernel_rfl
theorem walk_96 {args : List RV} {S : Mem} {Q : RV → Mem → Prop} (hS : S.loc = []) (ha : args.length ≤ 9) (h : fnF false Go.Proofs.Tryz.prog ir_96 args S Q) : SC Go.Proofs.Tryz.prog 96 args S Q := SC.walk mix Go.Proofs.Tryz.func96 tr_96 hS ha h
/- gatewarden/kit.Outside -/
def h_65 : FHint := hn [] [] [] [(0, [0, 1, 2]), (1, [6])] []
def ir_65 : IFun := ⟨15, [.t 6],
 (.seq
  (.ops [
    ⟨(some 6), .op (.mv), [.k (.p (.bool false))], none⟩] (some [0, 1, 2]))
  (.seq
   (.ops [
     ⟨(some 7), .op (.mv), [.r 0], none⟩,
     ⟨(some 8), .op (.mv), [.r 1], none⟩,
     ⟨(some 9), .op (.bin .lss .num), [.r 7, .r 8], none⟩,
     ⟨(some 10), .op (.mv), [.r 9], none⟩,
     ⟨(some 11), .op (.mv), [.r 0], (some (10, false))⟩,
     ⟨(some 12), .op (.mv), [.r 2], (some (10, false))⟩,
     ⟨(some 13), .op (.bin .gtr .num), [.r 11, .r 12], (some (10, false))⟩,
     ⟨(some 14), .op (.pick), [.r 10, .k (.p (.bool true)), .r 13], none⟩,
     ⟨(some 6), .op (.mv), [.r 14], none⟩] (some [6]))
   .ret))⟩
theorem tr_65 : trFn Go.Proofs.Tryz.prog h_65 Go.Proofs.Tryz.f65 = some ir_65 := by kernel_rfl
theorem walk_65 {args : List RV} {S : Mem} {Q : RV → Mem → Prop} (hS : S.loc = []) (ha : args.length ≤ 15) (h : fnF false Go.Proofs.Tryz.prog ir_65 args S Q) : SC Go.Proofs.Tryz.prog 65 args S Q := SC.walk mix Go.Proofs.Tryz.func65 tr_65 hS ha h
end Go.Ag
/- The stream of numbers: what its methods yield. -/
namespace Go.Ag
open Go
set_option linter.unusedVariables false
set_option linter.unusedSimpArgs false
noncomputable abbrev PG : Program := Go.Proofs.Tryz.prog
abbrev vi (n : Int) : RV := .p (.int .i64 n)
abbrev vb (b : Bool) : RV := .p (.bool b)

def below (x n : Int) : Int := if n < 1 then 0 else x % n
theorem below_pf (x n : Int) (hn : n ≤ 9223372036854775807) : PFun PG 119 [.int .i64 x, .int .i64 n] (.int .i64 (below x n)) := by
  refine walk_119 rfl (by simp) ?_
  constructor
  refine ⟨fun h1 => ?_, fun h1 => ?_⟩
  · constructor
    refine ⟨?_⟩
    show some (PV.int .i64 0) = _
    rw [below, if_pos h1]
  · constructor
    refine ⟨by omega, ?_⟩
    have h2 : x.tmod n < n := Int.tmod_lt_of_pos x (by omega)
    have h3 : x % n = if x.tmod n < 0 then x.tmod n + n else x.tmod n := by
      rw [Int.tmod_eq_emod]
      have h4 := Int.emod_nonneg x (show n ≠ 0 by omega)
      have h5 := Int.emod_lt_of_pos x (show 0 < n by omega)
      split
      · rw [if_neg (by omega)]; omega
      · have : ((n.natAbs : Nat) : Int) = n := by omega
        rw [this]
        rw [if_pos (by omega)]; omega
    constructor
    refine ⟨fun h4 => ?_, fun h4 => ?_⟩
    · have h5 : -n < x.tmod n := by
        have := Int.emod_nonneg x (show n ≠ 0 by omega)
        rw [h3, if_pos h4] at this
        rw [Int.tmod_eq_emod] at h4 ⊢
        have h6 := Int.emod_nonneg x (show n ≠ 0 by omega)
        split at h4
        · omega
        · rename_i hc
          rw [if_neg hc]
          have h7 : ¬ n ∣ x := fun hd => hc (.inr hd)
          have h8 : x % n ≠ 0 := fun h0 => h7 (Int.dvd_of_emod_eq_zero h0)
          have : ((n.natAbs : Nat) : Int) = n := by omega
          omega
      constructor
      refine ⟨by unfold inR; omega, ?_⟩
      constructor
      refine ⟨?_⟩
      show some (PV.int .i64 (x.tmod n + n)) = _
      rw [below, if_neg h1, h3, if_pos h4]
    · constructor
      refine ⟨?_⟩
      show some (PV.int .i64 (x.tmod n)) = _
      rw [below, if_neg h1, h3, if_neg h4]
theorem below_in (x n : Int) (hn : 1 ≤ n) : 0 ≤ below x n ∧ below x n < n := by
  unfold below
  rw [if_neg (by omega)]
  exact ⟨Int.emod_nonneg x (by omega), Int.emod_lt_of_pos x (by omega)⟩

def ints (l : List Int) : PV := .sl (l.map (PV.int .i64))
/-- The stream lies in the first block. -/
def stm (l : List Int) (a : Int) (rest : List Blk) (T : List (Nat × Nat × Nat)) : Mem := ⟨[], .cells 50 [.p (ints l), vi a] :: rest, T⟩

theorem uni_ints (l : List Int) : uni 1 (l.map (PV.int .i64)) = true := by
  simp only [uni, List.all_map, List.all_eq_true]
  intro x _
  rfl

theorem next_sc (l : List Int) (a n : Int) (rest : List Blk) (T : List (Nat × Nat × Nat)) (hl : l.length ≤ 140737488355328) (h0 : 0 ≤ a) (h1 : a < 1000000000) (hn : 1 ≤ n) (hn2 : n ≤ 1000000000) :
    SC PG 62 [.ptr 0 0, vi n] (stm l a rest T) fun r S' => ∃ v, (0 ≤ v ∧ v < n) ∧ r = vi v ∧ S' = stm l (a + 1) rest T := by
  refine walk_62 rfl (by simp) ?_
  constructor
  refine ⟨by unfold inR; omega, ?_⟩
  constructor
  refine ⟨fun he => ?_, fun he => ?_⟩
  · constructor
    refine ⟨by unfold inR; omega, ?_⟩
    constructor
    refine CallV.of (below_pf _ _ (by omega)) ?_
    constructor
    exact ⟨⟨_, below_in _ n hn, rfl, rfl⟩⟩
  · have hlen : ((l.map (PV.int .i64)).length : Int) = l.length := by simp
    have hpos : 0 < l.length := by
      rcases Nat.eq_zero_or_pos l.length with h | h
      · exact absurd (by rw [hlen, h]; rfl) he
      · exact h
    have e1 : (a + 1 - 1).tmod (l.map (PV.int .i64)).length = a % l.length := by
      rw [hlen, show a + 1 - 1 = a by omega, Int.tmod_eq_emod_of_nonneg h0]
    have e2 : IntKind.i64.wrap ((a + 1 - 1).tdiv (l.map (PV.int .i64)).length) = a / l.length := by
      rw [hlen, show a + 1 - 1 = a by omega, Int.tdiv_eq_ediv_of_nonneg h0]
      have := Int.ediv_nonneg h0 (show (0 : Int) ≤ l.length by omega)
      have := Int.ediv_le_self (l.length : Int) h0
      exact IntWalk.i64_in _ (by omega)
    have g0 := Int.emod_nonneg a (show (l.length : Int) ≠ 0 by omega)
    have g1 := Int.emod_lt_of_pos a (show (0 : Int) < l.length by omega)
    have g2 := Int.ediv_nonneg h0 (show (0 : Int) ≤ l.length by omega)
    have g3 : a / l.length ≤ a := Int.ediv_le_self _ h0
    have g4 : a / l.length * (a % l.length) ≤ a := by
      have h := Int.mul_le_mul_of_nonneg_left (Int.le_of_lt g1) g2
      have h2 := Int.mul_ediv_add_emod a l.length
      rw [Int.mul_comm] at h2
      omega
    have g5 : 0 ≤ a / l.length * (a % l.length) := Int.mul_nonneg g2 g0
    have g6 : a / l.length * (7919 + a % l.length) = a / l.length * 7919 + a / l.length * (a % l.length) := Int.mul_add _ _ _
    constructor
    refine ⟨by unfold inR; omega, ?_⟩
    constructor
    refine ⟨by rw [hlen]; omega, ?_⟩
    rw [e1]
    constructor
    refine ⟨by unfold inR; omega, ?_⟩
    constructor
    refine ⟨by rw [hlen]; omega, ?_⟩
    rw [e2]
    constructor
    refine Elt.map g0 g1 fun x hx => ⟨rfl, ?_⟩
    constructor
    refine CallV.of (below_pf _ _ (by omega)) ?_
    have k1 := below_in x 1073741824 (by omega)
    constructor
    refine ⟨by unfold inR; omega, ?_⟩
    constructor
    refine ⟨by unfold inR; omega, ?_⟩
    constructor
    refine ⟨by unfold inR; omega, ?_⟩
    constructor
    refine CallV.of (below_pf _ _ (by omega)) ?_
    constructor
    exact ⟨⟨_, below_in _ n hn, rfl, rfl⟩⟩
theorem range_sc (l : List Int) (a lo hi : Int) (rest : List Blk) (T : List (Nat × Nat × Nat)) (hl : l.length ≤ 140737488355328) (h0 : 0 ≤ a) (h1 : a < 1000000000) (hlo : -100000000 ≤ lo) (hh : lo ≤ hi) (hhi : hi ≤ 100000000) :
    SC PG 13 [.ptr 0 0, vi lo, vi hi] (stm l a rest T) fun r S' => ∃ v, (lo ≤ v ∧ v ≤ hi) ∧ r = vi v ∧ S' = stm l (a + 1) rest T := by
  refine walk_13 rfl (by simp) ?_
  constructor
  refine Cmp.no (by omega) ?_
  constructor
  refine ⟨by unfold inR; omega, ?_⟩
  constructor
  refine ⟨by unfold inR; omega, ?_⟩
  constructor
  refine CallM.of rfl (next_sc l a _ rest T hl h0 h1 (by omega) (by omega)) ?_
  rintro r S' ⟨v, hv, rfl, rfl⟩
  constructor
  refine ⟨by unfold inR; omega, ?_⟩
  constructor
  exact ⟨⟨_, ⟨by omega, by omega⟩, rfl, rfl⟩⟩
end Go.Ag
/- An abstract machine for Go functions: memory that nothing known points to is forgotten. -/
namespace Go.Ag
open Go
set_option linter.unusedVariables false
set_option linter.unusedSimpArgs false

/-- The value points to none but the first n blocks and m rows. -/
def RV.low (n m : Nat) : Nat → RV → Bool
  | _, .p _ | _, .nsl _ | _, .up | _, .top => true
  | _, .own _ t | _, .od _ t => decide (t < m)
  | _, .ptr b _ | _, .rs b _ _ _ | _, .mp b => decide (b < n)
  | k + 1, .agg cs | k + 1, .tup cs => cs.all (RV.low n m k)
  | k + 1, .fn _ a b => a.all (RV.low n m k) && b.all (RV.low n m k)
  | k + 1, .iface _ v => RV.low n m k v
  | _, _ => false
def Blk.low (n m : Nat) : Blk → Bool
  | .cells _ cs => cs.all (RV.low n m 6)
  | _ => true
def owLow (ow : Ow) (n m : Nat) : Ow := fun β => match ow β with
  | some (.mem b) => if b < n then some (.mem b) else none
  | some (.tok t) => if t < m then some (.tok t) else none
  | q => q
theorem owLow_some {ow : Ow} {n m β : Nat} {o : Owner} (h : owLow ow n m β = some o) : ow β = some o ∧ (∀ b, o = .mem b → b < n) ∧ ∀ t, o = .tok t → t < m := by
  unfold owLow at h
  split at h
  · rename_i b hb
    split at h
    · cases h; exact ⟨hb, (fun b' e => (by cases e; assumption)), (fun t e => (by cases e))⟩
    · cases h
  · rename_i t ht
    split at h
    · rename_i hlt
      cases h
      exact ⟨ht, (fun b' e => (by cases e)), (fun t' e => (by cases e; exact hlt))⟩
    · cases h
  · rename_i h1 h2
    exact ⟨h, fun b e => by subst e; exact absurd h (h1 b), fun t e => by subst e; exact absurd h (h2 t)⟩
theorem owLow_mem {ow : Ow} {n m β b : Nat} (h : ow β = some (.mem b)) (hb : b < n) : owLow ow n m β = some (.mem b) := by
  unfold owLow; rw [h]; simp [hb]
theorem owLow_tok {ow : Ow} {n m β t : Nat} (h : ow β = some (.tok t)) (ht : t < m) : owLow ow n m β = some (.tok t) := by
  unfold owLow; rw [h]; simp [ht]
theorem owLow_loc {ow : Ow} {n m β d : Nat} (h : ow β = some (.loc d)) : owLow ow n m β = some (.loc d) := by
  unfold owLow; rw [h]
section
variable {P : Program} {X : Cells} {ow : Ow} {w : World} {n : Nat} {T tg : List (Nat × Nat × Nat)}

theorem FX_low {β o : Nat} (h : FX X (owLow ow n T.length) T β o) : FX X ow (T ++ tg) β o := by
  rcases h with h | h
  · exact .inl h
  · right
    unfold Mut at *
    cases hq : owLow ow n T.length β with
    | none => rw [hq] at h; exact h.elim
    | some q =>
      rw [hq] at h
      obtain ⟨h1, h2, h3⟩ := owLow_some hq
      rw [h1]
      cases q with
      | mem b => trivial
      | loc d => trivial
      | tok t =>
        obtain ⟨e, z, g1, g2⟩ := h
        exact ⟨e, z, by rw [List.getElem?_append_left (h3 t rfl)]; exact g1, g2⟩
theorem St_low : St (FX X ow (T ++ tg)) w (FX X (owLow ow n T.length) T) w := fun β o u a b => ⟨a, fun h => b (FX_low h)⟩
def DeadOk (n : Nat) (tg : List (Nat × Nat × Nat)) : Prop := ∀ x ∈ tg, x.2 = (0, 0) → n ≤ x.1
theorem dead_low (hd : DeadOk n tg) {b : Nat} (hb : b < n) (h : Dead (T ++ tg) b) : Dead T b := by
  rcases List.mem_append.1 h with h | h
  · exact h
  · exact absurd (hd _ h rfl) (by simp only; omega)
theorem FRep.low (hd : DeadOk n tg) : ∀ (k : Nat) {r : RV} {v : Value}, r.low n T.length k = true → FRep (FX X ow (T ++ tg)) w ow (T ++ tg) r v → FRep (FX X (owLow ow n T.length) T) w (owLow ow n T.length) T r v := by
  have own : ∀ {l : List PV} {t : Nat} {v : Value}, t < T.length → FRep (FX X ow (T ++ tg)) w ow (T ++ tg) (.own l t) v → FRep (FX X (owLow ow n T.length) T) w (owLow ow n T.length) T (.own l t) v := by
    intro l t v ht h
    cases h with | own _ _ _ ht' hr h' =>
    refine .own l t v ht (hr.mono St_low) (fun e z he => ?_)
    obtain ⟨q1, q2, q3⟩ := h' e z (by rw [List.getElem?_append_left ht]; exact he)
    refine ⟨q1, q2, fun heq => ?_⟩
    obtain ⟨β, cap, a, b, c⟩ := q3 heq
    exact ⟨β, cap, a, owLow_tok b ht, c⟩
  intro k
  induction k with
  | zero =>
    intro r v hl h
    cases h <;> simp only [RV.low, decide_eq_true_eq, Bool.false_eq_true] at hl
    · rename_i h; exact .p (h.mono St_low)
    · exact .nsl _ _ (by assumption)
    · exact own hl (.own _ _ _ (by assumption) (by assumption) (by assumption))
    · rename_i h; exact .ptr _ _ _ (h.elim (fun h => .inl (dead_low hd hl h)) fun h => .inr (owLow_mem h hl))
    · rename_i h hc; exact .rs _ _ _ _ _ _ (h.elim (fun h => .inl (dead_low hd hl h)) fun h => .inr ⟨owLow_mem h.1 hl, h.2⟩) hc
    · rename_i h; exact .mp _ _ (h.elim (fun h => .inl (dead_low hd hl h)) fun h => .inr (owLow_mem h hl))
    · rename_i h hc; exact .od _ _ _ _ (own hl h) hc
    · exact .up _
    · exact .top _
  | succ k ih =>
    intro r v hl h
    cases h with
    | p h => exact .p (h.mono St_low)
    | nsl b a h => exact .nsl b a h
    | own l t v ht hr h' => exact own (by simpa [RV.low] using hl) (.own l t v ht hr h')
    | ptr b o β h => simp only [RV.low, decide_eq_true_eq] at hl; exact .ptr _ _ _ (h.elim (fun h => .inl (dead_low hd hl h)) fun h => .inr (owLow_mem h hl))
    | rs b o l z β cap h hc => simp only [RV.low, decide_eq_true_eq] at hl; exact .rs _ _ _ _ _ _ (h.elim (fun h => .inl (dead_low hd hl h)) fun h => .inr ⟨owLow_mem h.1 hl, h.2⟩) hc
    | mp b β h => simp only [RV.low, decide_eq_true_eq] at hl; exact .mp _ _ (h.elim (fun h => .inl (dead_low hd hl h)) fun h => .inr (owLow_mem h hl))
    | od l t a cap h hc => simp only [RV.low, decide_eq_true_eq] at hl; exact .od _ _ _ _ (own hl h) hc
    | up p => exact .up p
    | agg cs vs hs h =>
      simp only [RV.low, List.all_eq_true] at hl
      exact .agg cs vs hs fun k x v a b => ih (hl x (List.mem_of_getElem? a)) (h k x v a b)
    | tup cs vs hs h =>
      simp only [RV.low, List.all_eq_true] at hl
      exact .tup cs vs hs fun k x v a b => ih (hl x (List.mem_of_getElem? a)) (h k x v a b)
    | fn f xs ys vs us hv hu h h' =>
      simp only [RV.low, Bool.and_eq_true, List.all_eq_true] at hl
      exact .fn f xs ys vs us hv hu (fun k x v a b => ih (hl.1 x (List.mem_of_getElem? a)) (h k x v a b)) (fun k x v a b => ih (hl.2 x (List.mem_of_getElem? a)) (h' k x v a b))
    | iface t x v h => exact .iface t x v (ih (by simpa [RV.low] using hl) h)
    | top v => exact .top v

theorem MRel.low {pre g : List Blk} (hM : MRel X ow ⟨[], pre ++ g, T ++ tg⟩ w) (hd : DeadOk pre.length tg) (hlow : pre.all (Blk.low pre.length T.length) = true) (hno : noLoc ow) (hdt : ∀ x ∈ T, x.2 = (0, 0) → x.1 < pre.length) :
    MRel X (owLow ow pre.length T.length) ⟨[], pre, T⟩ w where
  inj := fun β β' o h h' => hM.inj _ _ _ (owLow_some h).1 (owLow_some h').1
  bnd := fun β o h => hM.bnd _ _ (owLow_some h).1
  xb := fun β o h => by
    obtain ⟨a, b⟩ := hM.xb β o h
    exact ⟨a, by unfold owLow; rw [b]⟩
  memlt := fun β b h => (owLow_some h).2.1 b rfl
  toklt := fun β t h => (owLow_some h).2.2 t rfl
  locin := fun β d h => absurd (owLow_some h).1 (hno _ _)
  deadlt := fun b h => hdt _ h rfl
  blk := fun b k h => by
    simp only at h
    have hb : b < pre.length := (List.getElem?_eq_some_iff.1 h).1
    have q := hM.blk b k (by show (pre ++ g)[b]? = some k; rw [List.getElem?_append_left hb]; exact h)
    simp only [List.all_eq_true] at hlow
    have hl := hlow k (List.mem_of_getElem? h)
    cases k with
    | cells ty cs =>
      obtain ⟨hn, β, ho, vs, fr, h1, h2, h3, h4⟩ := q
      simp only [Blk.low, List.all_eq_true] at hl
      exact ⟨fun hx => hn (List.mem_append_left _ hx), β, owLow_mem ho hb, vs, fr, h1, h2, h3, fun k x v a c => (h4 k x v a c).low hd 6 (hl x (List.mem_of_getElem? a))⟩
    | iter s pos =>
      obtain ⟨hn, β, ho, h1⟩ := q
      exact ⟨fun hx => hn (List.mem_append_left _ hx), β, owLow_mem ho hb, h1⟩
    | dead => trivial
  loc := fun d cs h => by cases h
  tok := fun t e z h hz => by
    simp only at h
    have ht : t < T.length := (List.getElem?_eq_some_iff.1 h).1
    obtain ⟨β, vs, fr, ho, rest⟩ := hM.tok t e z (by show (T ++ tg)[t]? = _; rw [List.getElem?_append_left ht]; exact h) hz
    exact ⟨β, vs, fr, owLow_tok ho ht, rest⟩

/-- What a function leaves behind and nothing known points to is forgotten. -/
theorem SC.forget {f : FuncId} {args : List RV} {S : Mem} {Q Q' : RV → Mem → Prop} (h : SC P f args S Q)
    (hq : ∀ r S', Q r S' → ∃ pre g T tg, S' = ⟨[], pre ++ g, T ++ tg⟩ ∧ S.mem.length ≤ pre.length ∧ S.toks.length ≤ T.length ∧ DeadOk pre.length tg ∧ pre.all (Blk.low pre.length T.length) = true ∧
      (∀ x ∈ T, x.2 = (0, 0) → x.1 < pre.length) ∧ r.low pre.length T.length 6 = true ∧ Q' r ⟨[], pre, T⟩) : SC P f args S Q' := by
  refine ⟨h.1, fun X ow w vs hM hno hs ha => (h.2 X ow w vs hM hno hs ha).mono ?_⟩
  rintro e w' ⟨v, r, S', ow', he, hQ, hl, hM', hno', hr, tr⟩
  obtain ⟨pre, g, T, tg, rfl, k1, k2, k3, k4, k5, k6, k7⟩ := hq r S' hQ
  refine ⟨v, r, ⟨[], pre, T⟩, owLow ow' pre.length T.length, he, k7, rfl, hM'.low k3 k4 hno' k5, fun β d h => hno' _ _ (owLow_some h).1, hr.low k3 6 k6, ?_⟩
  exact
    { st := tr.st.trans St_low
      mem := fun β b hb => by
        have hbl : b < pre.length := Nat.lt_of_lt_of_le (hM.memlt _ _ hb) k1
        rcases tr.mem β b hb with h1 | ⟨h1, h2⟩
        · exact .inl (dead_low k3 hbl h1)
        · exact .inr ⟨owLow_mem h1 hbl, h2⟩
      tl := k2
      tok := fun t e' z' ht h => by
        have htl : t < T.length := Nat.lt_of_lt_of_le ht k2
        obtain ⟨e, h1, h2, h3, h4⟩ := tr.tok t e' z' ht (by show (T ++ tg)[t]? = _; rw [List.getElem?_append_left htl]; exact h)
        refine ⟨e, h1, h2, h3, fun heq β sh a b => ?_⟩
        obtain ⟨c, d⟩ := h4 heq β sh a b
        exact ⟨owLow_tok c htl, d⟩
      fr := fun β hb hn => by
        obtain ⟨a, b⟩ := tr.fr β hb hn
        exact ⟨by unfold owLow; rw [a], b⟩
      size := tr.size
      os := tr.os
      tape := tr.tape
      output := tr.output }
end
end Go.Ag
/- The breaker: what its methods do. -/
namespace Go.Ag
open Go
set_option linter.unusedVariables false
set_option linter.unusedSimpArgs false
set_option maxRecDepth 10000

structure Sw where
  f : Int
  wd : Int
  op : Int
  pr : Int
  now : Int
  st : Int
  opn : Int
  bad : RV
  asked : Int
  good : Int
def Sw.blk (s : Sw) : Blk := .cells 306 [vi s.f, vi s.wd, vi s.op, vi s.pr, vi s.now, vi s.st, vi s.opn, s.bad, vi s.asked, vi s.good]
abbrev swm (b0 : Blk) (s : Sw) (R : List Blk) (T : List (Nat × Nat × Nat)) : Mem := ⟨[], b0 :: s.blk :: R, T⟩
/-- A state that is in order: small numbers. -/
structure Sw.ok (s : Sw) : Prop where
  op : 0 ≤ s.op ∧ s.op ≤ 1000
  opn : 0 ≤ s.opn ∧ s.opn ≤ 1000
  now : 0 ≤ s.now ∧ s.now ≤ 1000
  asked : 0 ≤ s.asked ∧ s.asked ≤ 1000
  good : 0 ≤ s.good ∧ s.good ≤ 1000
def Sw.sta (s : Sw) (a : Int) : Int := if s.st = 1 ∧ s.opn + s.op ≤ a then 2 else s.st
def Sw.pass (s : Sw) (a : Int) : Sw := if s.sta a = s.st then { s with now := a } else { s with now := a, st := s.sta a, asked := 0, good := 0 }

theorem moment_pf (a : Int) (h0 : 0 ≤ a) (h1 : a ≤ 1000) : PFun PG 96 [.int .i64 a] (.bool true) := by
  refine walk_96 rfl (by simp) ?_
  constructor
  refine Cmp.yes h0 ?_
  constructor
  refine Cmp.yes (by omega) ?_
  constructor
  exact ⟨rfl⟩
theorem tf_sc (b0 : Blk) (s : Sw) (R : List Blk) (T : List (Nat × Nat × Nat)) (a : Int) (h0 : 0 ≤ a) (h1 : a ≤ 1000) (hn : s.now ≤ a) :
    SC PG 80 [.ptr 1 0, vi a] (swm b0 s R T) fun r S' => r = vi 0 ∧ S' = swm b0 s R T := by
  refine walk_80 rfl (by simp) ?_
  constructor
  refine CallV.of (moment_pf a h0 h1) ?_
  constructor
  refine Cmp.no (by omega) ?_
  constructor
  exact ⟨rfl, rfl⟩
theorem sta_sc (b0 : Blk) (s : Sw) (hs : s.ok) (R : List Blk) (T : List (Nat × Nat × Nat)) (a : Int) :
    SC PG 85 [.ptr 1 0, vi a] (swm b0 s R T) fun r S' => r = vi (s.sta a) ∧ S' = swm b0 s R T := by
  have := hs.op
  have := hs.opn
  refine walk_85 rfl (by simp) ?_
  constructor
  refine ⟨fun h1 => ?_, fun h1 => ?_⟩
  · constructor
    refine ⟨by unfold inR; omega, ?_⟩
    constructor
    refine ⟨fun h2 => ?_, fun h2 => ?_⟩
    · constructor
      refine ⟨?_, rfl⟩
      rw [Sw.sta, if_pos ⟨h1, h2⟩]
    · constructor
      refine ⟨?_, rfl⟩
      rw [Sw.sta, if_neg (fun h => h2 h.2)]
  · constructor
    refine ⟨?_, rfl⟩
    rw [Sw.sta, if_neg (fun h => h1 h.1)]
theorem pass_sc (b0 : Blk) (s : Sw) (hs : s.ok) (R : List Blk) (T : List (Nat × Nat × Nat)) (a : Int) :
    SC PG 81 [.ptr 1 0, vi a] (swm b0 s R T) fun r S' => r = .tup [] ∧ S' = swm b0 (s.pass a) R T := by
  refine walk_81 rfl (by simp) ?_
  constructor
  refine CallM.of rfl (sta_sc b0 s hs R T a) ?_
  rintro r S' ⟨rfl, rfl⟩
  constructor
  refine ⟨fun h1 => ?_, fun h1 => ?_⟩
  · constructor
    refine ⟨rfl, ?_⟩
    rw [Sw.pass, if_pos h1]
    rfl
  · constructor
    refine ⟨rfl, ?_⟩
    rw [Sw.pass, if_neg h1]
    rfl
def Sw.ask (s : Sw) (a : Int) : Bool × Sw :=
  let p := s.pass a
  if p.st = 2 ∧ p.asked < p.pr then (true, { p with asked := p.asked + 1 }) else (decide (p.st = 0), p)
theorem pass_ok {s : Sw} (hs : s.ok) {a : Int} (h0 : 0 ≤ a) (h1 : a ≤ 1000) : (s.pass a).ok := by
  unfold Sw.pass
  split
  · exact ⟨hs.op, hs.opn, ⟨h0, h1⟩, hs.asked, hs.good⟩
  · exact ⟨hs.op, hs.opn, ⟨h0, h1⟩, ⟨by simp, by simp⟩, ⟨by simp, by simp⟩⟩
theorem ask_sc (b0 : Blk) (s : Sw) (hs : s.ok) (R : List Blk) (T : List (Nat × Nat × Nat)) (a : Int) (h0 : 0 ≤ a) (h1 : a ≤ 1000) (hn : s.now ≤ a) :
    SC PG 25 [.ptr 1 0, vi a] (swm b0 s R T) fun r S' => r = .tup [vb (s.ask a).1, vi 0] ∧ S' = swm b0 (s.ask a).2 R T := by
  have hp := pass_ok hs h0 h1
  have := hp.asked
  refine walk_25 rfl (by simp) ?_
  constructor
  refine CallM.of rfl (tf_sc b0 s R T a h0 h1 hn) ?_
  rintro r S' ⟨rfl, rfl⟩
  constructor
  refine Cmp.yes rfl ?_
  constructor
  refine CallM.of rfl (pass_sc b0 s hs R T a) ?_
  rintro r S' ⟨rfl, rfl⟩
  constructor
  refine ⟨fun h2 => ?_, fun h2 => ?_⟩
  · constructor
    refine ⟨fun h3 => ?_, fun h3 => ?_⟩
    · constructor
      refine ⟨by unfold inR; omega, ?_⟩
      constructor
      have e : s.ask a = (true, { s.pass a with asked := (s.pass a).asked + 1 }) := by
        unfold Sw.ask; rw [if_pos ⟨h2, h3⟩]
      rw [e]
      exact ⟨rfl, rfl⟩
    · have e : s.ask a = (decide ((s.pass a).st = 0), s.pass a) := by
        unfold Sw.ask; rw [if_neg (fun h => h3 h.2)]
      constructor
      refine ⟨fun h4 => ?_, fun h4 => ?_⟩
      · constructor
        rw [e, decide_eq_true h4]
        exact ⟨rfl, rfl⟩
      · constructor
        rw [e, decide_eq_false h4]
        exact ⟨rfl, rfl⟩
  · have e : s.ask a = (decide ((s.pass a).st = 0), s.pass a) := by
      unfold Sw.ask; rw [if_neg (fun h => h2 h.1)]
    constructor
    refine ⟨fun h4 => ?_, fun h4 => ?_⟩
    · constructor
      rw [e, decide_eq_true h4]
      exact ⟨rfl, rfl⟩
    · constructor
      rw [e, decide_eq_false h4]
      exact ⟨rfl, rfl⟩
theorem state_sc (b0 : Blk) (s : Sw) (hs : s.ok) (R : List Blk) (T : List (Nat × Nat × Nat)) (a : Int) (h0 : 0 ≤ a) (h1 : a ≤ 1000) (hn : s.now ≤ a) :
    SC PG 27 [.ptr 1 0, vi a] (swm b0 s R T) fun r S' => r = .tup [vi (s.sta a), vi 0] ∧ S' = swm b0 s R T := by
  refine walk_27 rfl (by simp) ?_
  constructor
  refine CallM.of rfl (tf_sc b0 s R T a h0 h1 hn) ?_
  rintro r S' ⟨rfl, rfl⟩
  constructor
  refine Cmp.yes rfl ?_
  constructor
  refine CallM.of rfl (sta_sc b0 s hs R T a) ?_
  rintro r S' ⟨rfl, rfl⟩
  constructor
  exact ⟨rfl, rfl⟩
def Sw.trip (s : Sw) (a : Int) : Sw := { s with st := 1, opn := a, bad := .nsl true }
theorem trip_sc (b0 : Blk) (s : Sw) (R : List Blk) (T : List (Nat × Nat × Nat)) (a : Int) :
    SC PG 82 [.ptr 1 0, vi a] (swm b0 s R T) fun r S' => r = .tup [] ∧ S' = swm b0 (s.trip a) R T := by
  refine walk_82 rfl (by simp) ?_
  constructor
  exact ⟨rfl, rfl⟩
end Go.Ag
/- The breaker is told a result; a breaker is made. -/
namespace Go.Ag
open Go
set_option linter.unusedVariables false
set_option linter.unusedSimpArgs false
set_option maxRecDepth 10000

abbrev pis (ms : List Int) : List PV := ms.map (PV.int .i64)
/-- What the closure of Tell sees: the moment, the breaker. -/
abbrev tm (b0 : Blk) (s : Sw) (a : Int) (T : List (Nat × Nat × Nat)) : Mem := swm b0 s [.cells 104 [.ptr 1 0], .cells 6 [vi a]] T
theorem del_sc (b0 : Blk) (s : Sw) (a m : Int) (T : List (Nat × Nat × Nat)) (ha : 0 ≤ a ∧ a ≤ 1000) (hw : 0 ≤ s.wd ∧ s.wd ≤ 1000) (hm : a - s.wd < m) :
    SC PG 84 [vi m, .ptr 3 0, .ptr 2 0] (tm b0 s a T) fun r S' => r = vb false ∧ S' = tm b0 s a T := by
  refine walk_84 rfl (by simp) ?_
  constructor
  refine ⟨by unfold inR; omega, ?_⟩
  constructor
  refine Cmp.no (by omega) ?_
  constructor
  exact ⟨rfl, rfl⟩
theorem idx_sc (b0 : Blk) (s : Sw) (a : Int) (T : List (Nat × Nat × Nat)) (ms : List Int) (t : Nat) (ha : 0 ≤ a ∧ a ≤ 1000) (hw : 0 ≤ s.wd ∧ s.wd ≤ 1000) (hm : ∀ m ∈ ms, a - s.wd < m) (hl : ms.length ≤ 1000) :
    SC PG 142 [.own (pis ms) t, .fn 84 [] [.ptr 3 0, .ptr 2 0]] (tm b0 s a T) fun r S' => r = vi (-1) ∧ S' = tm b0 s a T := by
  have hlen : (pis ms).length = ms.length := by simp
  refine walk_142 rfl (by simp) ?_
  constructor
  refine LoopF.of (fun i : Nat => ([(0, .own (pis ms) t), (1, .fn 84 [] [.ptr 3 0, .ptr 2 0]), (7, vi (pis ms).length), (8, vi i)], tm b0 s a T)) (fun i => ms.length - i) (fun i => i ≤ ms.length) 0 (Nat.zero_le _) rfl rfl ?_
  intro i hi
  constructor
  refine ⟨fun h1 => ?_, fun h1 => ?_⟩
  · rw [hlen] at h1
    constructor
    refine Elt.map (by omega) (by omega) fun m hm2 => ⟨rfl, ?_⟩
    constructor
    refine CallM.of rfl (del_sc b0 s a m T ha hw (hm m (List.mem_of_getElem? hm2))) ?_
    rintro r S' ⟨rfl, rfl⟩
    constructor
    refine ⟨by unfold inR; omega, ?_⟩
    exact ⟨i + 1, by omega, by omega, rfl, rfl⟩
  · constructor
    exact ⟨rfl, rfl⟩
theorem dlf_sc (b0 : Blk) (s : Sw) (a : Int) (T : List (Nat × Nat × Nat)) (ms : List Int) (t : Nat) (ha : 0 ≤ a ∧ a ≤ 1000) (hw : 0 ≤ s.wd ∧ s.wd ≤ 1000) (hm : ∀ m ∈ ms, a - s.wd < m) (hl : ms.length ≤ 1000) :
    SC PG 83 [.own (pis ms) t, .fn 84 [] [.ptr 3 0, .ptr 2 0]] (tm b0 s a T) fun r S' => r = .own (pis ms) t ∧ S' = tm b0 s a T := by
  refine walk_83 rfl (by simp) ?_
  constructor
  refine CallM.of rfl (idx_sc b0 s a T ms t ha hw hm hl) ?_
  rintro r S' ⟨rfl, rfl⟩
  constructor
  refine Cmp.yes rfl ?_
  constructor
  exact ⟨rfl, rfl⟩

/-- Good news in the state between. -/
def Sw.tellG (s : Sw) : Sw := if s.good + 1 = s.pr then { s with good := s.good + 1, st := 0 } else { s with good := s.good + 1 }
theorem tellG_sc (b0 : Blk) (T : List (Nat × Nat × Nat)) (hb0 : b0.low 2 T.length = true) (hT' : ∀ x ∈ T, x.2 ≠ (0, 0)) (s : Sw) (hs : s.ok) (hbad : s.bad = .nsl true) (a : Int) (h0 : 0 ≤ a) (h1 : a ≤ 1000) (hn : s.now ≤ a) (h2 : (s.pass a).st = 2) :
    SC PG 26 [.ptr 1 0, vi a, vb true] (swm b0 s [] T) fun r S' => r = vi 0 ∧ S' = swm b0 (s.pass a).tellG [] T := by
  have hp := pass_ok hs h0 h1
  have := hp.good
  refine SC.forget (Q := fun r S' => r = vi 0 ∧ S' = ⟨[], [b0, (s.pass a).tellG.blk] ++ [.cells 104 [.ptr 1 0], .cells 6 [vi a]], T ++ []⟩) ?_ ?_
  · refine walk_26 rfl (by simp) ?_
    constructor
    refine CallM.of rfl (tf_sc b0 s _ _ a h0 h1 hn) ?_
    rintro r S' ⟨rfl, rfl⟩
    constructor
    refine Cmp.yes rfl ?_
    constructor
    refine CallM.of rfl (pass_sc b0 s hs _ _ a) ?_
    rintro r S' ⟨rfl, rfl⟩
    constructor
    refine Cmp.yes h2 ?_
    constructor
    refine Cmp.yes h2 ?_
    constructor
    refine ⟨by unfold inR; omega, ?_⟩
    constructor
    refine ⟨fun h3 => ?_, fun h3 => ?_⟩
    · constructor
      rw [Sw.tellG, if_pos h3, List.append_nil]
      exact ⟨rfl, rfl⟩
    · constructor
      rw [Sw.tellG, if_neg h3, List.append_nil]
      exact ⟨rfl, rfl⟩
  · rintro r S' ⟨rfl, rfl⟩
    refine ⟨[b0, (s.pass a).tellG.blk], _, T, [], rfl, by simp, by simp, (by intro x hx; cases hx), ?_, (fun x hx h => absurd h (hT' x hx)), rfl, rfl, rfl⟩
    have hb : (s.pass a).tellG.bad = .nsl true := by
      unfold Sw.tellG Sw.pass
      split <;> split <;> exact hbad
    simp only [List.all_cons, List.all_nil, Bool.and_true, Bool.and_eq_true, List.length_cons, List.length_nil]
    refine ⟨hb0, ?_⟩
    simp only [Sw.blk, Blk.low, hb]
    rfl
/-- Bad news while it is closed. -/
def Sw.tellB (s : Sw) (a : Int) (n : Nat) (bad : RV) : Sw := if s.f ≤ n then s.trip a else { s with bad := bad }
theorem tellB_sc (b0 : Blk) (f wd op pr now opn : Int) (bad : RV) (asked good : Int) (hs : (Sw.mk f wd op pr now 0 opn bad asked good).ok) (hk : bad = .nsl true ∨ ∃ l t, bad = .own l t) (T : List (Nat × Nat × Nat)) (ms : List Int) (t : Nat) (T' : List (Nat × Nat × Nat)) (a : Int) (h0 : 0 ≤ a) (h1 : a ≤ 1000) (hn : now ≤ a)
    (hb0 : b0.low 2 T'.length = true) (hT : T.length ≤ T'.length) (ht : t < T'.length) (hT' : ∀ x ∈ T', x.2 ≠ (0, 0)) (hw : 0 ≤ wd ∧ wd ≤ 1000) (hm : ∀ m ∈ ms, a - wd < m) (hl : ms.length ≤ 1000)
    (happ : ∀ S : Mem, S.toks = T → opA (.app 1 3 8 false) [bad, .p (.sl [.int .i64 a])] S = some (.own (pis ms) t, { S with toks := T' })) :
    SC PG 26 [.ptr 1 0, vi a, vb false] (swm b0 ⟨f, wd, op, pr, now, 0, opn, bad, asked, good⟩ [] T) fun r S' => r = vi 0 ∧ S' = swm b0 ((Sw.mk f wd op pr a 0 opn bad asked good).tellB a ms.length (.own (pis ms) t)) [] T' := by
  have hlen : (pis ms).length = ms.length := by simp
  have hpass : (Sw.mk f wd op pr now 0 opn bad asked good).pass a = ⟨f, wd, op, pr, a, 0, opn, bad, asked, good⟩ := by
    unfold Sw.pass
    rw [if_pos (by unfold Sw.sta; rw [if_neg (fun h => absurd h.1 (by simp))])]
  refine SC.forget (Q := fun r S' => r = vi 0 ∧ S' = ⟨[], [b0, ((Sw.mk f wd op pr a 0 opn bad asked good).tellB a ms.length (.own (pis ms) t)).blk] ++ [.cells 104 [.ptr 1 0], .cells 6 [vi a]], T' ++ []⟩) ?_ ?_
  · refine walk_26 rfl (by simp) ?_
    constructor
    refine CallM.of rfl (tf_sc b0 _ _ _ a h0 h1 hn) ?_
    rintro r S' ⟨rfl, rfl⟩
    constructor
    refine Cmp.yes rfl ?_
    constructor
    refine CallM.of rfl (pass_sc b0 _ hs _ _ a) ?_
    rintro r S' ⟨rfl, rfl⟩
    rw [hpass]
    constructor
    refine Cmp.no (by simp) ?_
    constructor
    refine Cmp.no (by simp) ?_
    constructor
    refine Cmp.yes rfl ?_
    rcases hk with rfl | ⟨l0, t0, rfl⟩
    all_goals
      constructor
      refine Opr.of (happ _ rfl) ?_
      constructor
      refine ⟨rfl, ?_⟩
      constructor
      refine CallD.of rfl (dlf_sc b0 ⟨f, wd, op, pr, a, 0, opn, _, asked, good⟩ a T' ms t ⟨h0, h1⟩ hw hm hl) ?_
      constructor
      refine ⟨rfl, ?_⟩
      constructor
      refine ⟨fun h3 => ?_, fun h3 => ?_⟩
      · constructor
        refine CallM.of rfl (trip_sc b0 ⟨f, wd, op, pr, a, 0, opn, .own (pis ms) t, asked, good⟩ _ T' a) ?_
        rintro r S' ⟨rfl, rfl⟩
        constructor
        rw [hlen] at h3
        rw [Sw.tellB, if_pos h3, List.append_nil]
        exact ⟨rfl, rfl⟩
      · constructor
        rw [hlen] at h3
        rw [Sw.tellB, if_neg h3, List.append_nil]
        exact ⟨rfl, rfl⟩
  · rintro r S' ⟨rfl, rfl⟩
    refine ⟨[b0, ((Sw.mk f wd op pr a 0 opn bad asked good).tellB a ms.length (.own (pis ms) t)).blk], _, T', [], rfl, by simp, hT, (by intro x hx; cases hx), ?_, fun x hx h => absurd h (hT' x hx), rfl, rfl, rfl⟩
    simp only [List.all_cons, List.all_nil, Bool.and_true, Bool.and_eq_true, List.length_cons, List.length_nil]
    refine ⟨hb0, ?_⟩
    unfold Sw.tellB
    split
    · rfl
    · simp only [Sw.blk, Blk.low, List.all_cons, List.all_nil, RV.low, Bool.and_true, Bool.true_and, decide_eq_true_eq]
      exact ht

theorem outside_pf (n a b : Int) : PFun PG 65 [.int .i64 n, .int .i64 a, .int .i64 b] (.bool (decide (n < a ∨ b < n))) := by
  refine walk_65 rfl (by simp) ?_
  constructor
  refine ⟨fun h1 => ?_, fun h1 => ?_⟩
  · constructor
    refine ⟨?_⟩
    rw [decide_eq_true (Or.inl h1)]
    rfl
  · constructor
    refine ⟨fun h2 => ?_, fun h2 => ?_⟩
    · constructor
      refine ⟨?_⟩
      rw [decide_eq_true (Or.inr h2)]
      rfl
    · constructor
      refine ⟨?_⟩
      rw [decide_eq_false (by omega)]
      rfl
theorem inside_pf (n a b : Int) (h1 : a ≤ n) (h2 : n ≤ b) : PFun PG 65 [.int .i64 n, .int .i64 a, .int .i64 b] (.bool false) := by
  have := outside_pf n a b
  rwa [decide_eq_false (by omega)] at this
def Sw.new (f wd op pr : Int) : Sw := ⟨f, wd, op, pr, 0, 0, 0, .nsl true, 0, 0⟩
theorem new_sc (b0 : Blk) (T : List (Nat × Nat × Nat)) (f wd op pr : Int) (h1 : 1 ≤ f ∧ f ≤ 100) (h2 : 1 ≤ wd ∧ wd ≤ 3600000) (h3 : 1 ≤ op ∧ op ≤ 3600000) (h4 : 1 ≤ pr ∧ pr ≤ 100) :
    SC PG 24 [.agg [vi f, vi wd, vi op, vi pr]] ⟨[], [b0], T⟩ fun r S' => r = .tup [.ptr 1 0, vi 0] ∧ S' = swm b0 (Sw.new f wd op pr) [] T := by
  refine walk_24 rfl (by simp) ?_
  constructor
  refine CallV.of (inside_pf _ _ _ h1.1 h1.2) ?_
  constructor
  refine CallV.of (inside_pf _ _ _ h4.1 h4.2) ?_
  constructor
  refine CallV.of (inside_pf _ _ _ h2.1 h2.2) ?_
  constructor
  refine CallV.of (inside_pf _ _ _ h3.1 h3.2) ?_
  constructor
  exact ⟨rfl, rfl⟩
end Go.Ag
/- Rows that grow by one element: the value, the memory's marks. -/
namespace Go.Ag
open Go
set_option linter.unusedVariables false
set_option linter.unusedSimpArgs false

abbrev Toks := List (Nat × Nat × Nat)
/-- More marks; those that were stand. -/
def Ext (T T' : Toks) : Prop := ∀ (i : Nat) (x : Nat × Nat × Nat), T[i]? = some x → T'[i]? = some x
theorem Ext.refl (T : Toks) : Ext T T := fun _ _ h => h
theorem Ext.trans {T T' T'' : Toks} (h : Ext T T') (k : Ext T' T'') : Ext T T'' := fun i x hx => k i x (h i x hx)
theorem Ext.none {T T' : Toks} (h : Ext T T') : ∀ i : Nat, T'[i]? = none → T[i]? = none := by
  intro i hi
  cases hx : T[i]? with
  | none => rfl
  | some x => rw [h i x hx] at hi; cases hi
/-- A row that was made since T0: its value, its elements, its mark. -/
def Row (T0 : Toks) (z ty : Nat) (xs : List PV) (T : Toks) (r : RV) : Prop :=
  (r = .nsl true ∧ xs = []) ∨ ∃ t, r = .own xs t ∧ T[t]? = some (xs.length, z, ty) ∧ T0[t]? = none ∧ xs ≠ []
theorem Row.nil {T0 T : Toks} {z ty : Nat} : Row T0 z ty [] T (.nsl true) := .inl ⟨rfl, rfl⟩
theorem Row.ext {T0 T T' : Toks} {z ty : Nat} {xs : List PV} {r : RV} (h : Row T0 z ty xs T r) (k : Ext T T') : Row T0 z ty xs T' r := by
  rcases h with h | ⟨t, rfl, h1, h2⟩
  · exact .inl h
  · exact .inr ⟨t, rfl, k _ _ h1, h2⟩
theorem Row.back {T0 T1 T : Toks} {z ty : Nat} {xs : List PV} {r : RV} (h : Row T1 z ty xs T r) (k : Ext T0 T1) : Row T0 z ty xs T r := by
  rcases h with h | ⟨t, rfl, h1, h2, h3⟩
  · exact .inl h
  · exact .inr ⟨t, rfl, h1, k.none _ h2, h3⟩
/-- One more. -/
theorem Row.app {T0 T : Toks} {z ty b : Nat} {xs : List PV} {r : RV} {y : PV} (h : Row T0 z ty xs T r) (hT : Ext T0 T) (hu : uni z [y] = true) (hlim : (xs.length + 1) * b ≤ lim) :
    ∃ t T', (∀ S : Mem, S.toks = T → opA (.app z ty b false) [r, .p (.sl [y])] S = some (.own (xs ++ [y]) t, { S with toks := T' })) ∧ Row T0 z ty (xs ++ [y]) T' (.own (xs ++ [y]) t) ∧ Ext T0 T' := by
  rcases h with ⟨rfl, rfl⟩ | ⟨t, rfl, h1, h2, h3⟩
  · refine ⟨T.length, T ++ [(1, z, ty)], fun S hS => ?_, .inr ⟨_, rfl, by simp, hT.none _ (by simp), by simp⟩, fun i x hx => ?_⟩
    · rw [app_nil hu (by simp) (by simpa using hlim), hS]; rfl
    · rw [List.getElem?_append_left (List.getElem?_eq_some_iff.1 (hT i x hx)).1, hT i x hx]
  · refine ⟨t, T.set t (xs.length + 1, z, ty), fun S hS => ?_, .inr ⟨_, rfl, ?_, h2, by simp⟩, fun i x hx => ?_⟩
    · rw [app_own (e := xs.length) (by rw [hS]; exact h1) rfl hu (by simp) (by simpa using hlim), hS]; rfl
    · rw [List.getElem?_set_self (List.getElem?_eq_some_iff.1 h1).1]
      simp
    · rw [List.getElem?_set_ne (by rintro rfl; rw [h2] at hx; cases hx), hT i x hx]
end Go.Ag
/- The abstract code of the functions that are walked through. -/
namespace Go.Ag
open Go
set_option linter.unusedVariables false
/- (*gatewarden/gatemake.Stream).Flip -/
def h_12 : FHint := hn [] [] [] [(0, [0, 1]), (1, [4])] []
def ir_12 : IFun := ⟨9, [.t 4],
 (.seq
  (.ops [
    ⟨(some 4), .op (.mv), [.k (.p (.bool false))], none⟩] (some [0, 1]))
  (.seq
   (.ops [
     ⟨(some 5), .op (.mv), [.r 0], none⟩,
     ⟨(some 6), .op (.mv), [.r 1], none⟩,
     ⟨(some 7), .call 62, [.r 5, .r 6], none⟩,
     ⟨(some 8), .op (.bin .eql .num), [.r 7, .k (.p (.int .i64 0))], none⟩,
     ⟨(some 4), .op (.mv), [.r 8], none⟩] (some [4]))
   .ret))⟩
theorem tr_12 : trFn Go.Proofs.Tryz.prog h_12 Go.Proofs.Tryz.f12 = some ir_12 := by kernel_rfl
theorem walk_12 {args : List RV} {S : Mem} {Q : RV → Mem → Prop} (hS : S.loc = []) (ha : args.length ≤ 9) (h : fnF false Go.Proofs.Tryz.prog ir_12 args S Q) : SC Go.Proofs.Tryz.prog 12 args S Q := SC.walk mix Go.Proofs.Tryz.func12 tr_12 hS ha h
/- (*gatewarden/gatemake.Stream).Some -/
def h_18 : FHint := hn [] [] [] [(0, [0, 1]), (1, [4])] []
def ir_18 : IFun := ⟨12, [.t 4],
 (.seq
  (.ops [
    ⟨(some 4), .op (.mv), [.k (.p (.str []))], none⟩] (some [0, 1]))
  (.seq
   (.ops [
     ⟨(some 5), .op (.mv), [.r 1], none⟩,
     ⟨(some 6), .op (.mv), [.r 0], none⟩,
     ⟨(some 7), .op (.mv), [.r 1], none⟩,
     ⟨(some 8), .op (.lenl), [.r 7], none⟩,
     ⟨(some 9), .call 62, [.r 6, .r 8], none⟩,
     ⟨(some 10), .op (.ia 1), [.r 5, .r 9], none⟩,
     ⟨(some 11), .op (.ld none), [.r 10], none⟩,
     ⟨(some 4), .op (.mv), [.r 11], none⟩] (some [4]))
   .ret))⟩
theorem tr_18 : trFn Go.Proofs.Tryz.prog h_18 Go.Proofs.Tryz.f18 = some ir_18 := by kernel_rfl
theorem walk_18 {args : List RV} {S : Mem} {Q : RV → Mem → Prop} (hS : S.loc = []) (ha : args.length ≤ 12) (h : fnF false Go.Proofs.Tryz.prog ir_18 args S Q) : SC Go.Proofs.Tryz.prog 18 args S Q := SC.walk mix Go.Proofs.Tryz.func18 tr_18 hS ha h
/- (*gatewarden/gatemake.Stream).Pick -/
def h_51 : FHint := hn [] [] [] [(0, [0, 1]), (1, [4])] []
def ir_51 : IFun := ⟨12, [.t 4],
 (.seq
  (.ops [
    ⟨(some 4), .op (.mv), [.k (.p (.int .i64 0))], none⟩] (some [0, 1]))
  (.seq
   (.ops [
     ⟨(some 5), .op (.mv), [.r 1], none⟩,
     ⟨(some 6), .op (.mv), [.r 0], none⟩,
     ⟨(some 7), .op (.mv), [.r 1], none⟩,
     ⟨(some 8), .op (.lenl), [.r 7], none⟩,
     ⟨(some 9), .call 62, [.r 6, .r 8], none⟩,
     ⟨(some 10), .op (.ia 1), [.r 5, .r 9], none⟩,
     ⟨(some 11), .op (.ld none), [.r 10], none⟩,
     ⟨(some 4), .op (.mv), [.r 11], none⟩] (some [4]))
   .ret))⟩
theorem tr_51 : trFn Go.Proofs.Tryz.prog h_51 Go.Proofs.Tryz.f51 = some ir_51 := by kernel_rfl
theorem walk_51 {args : List RV} {S : Mem} {Q : RV → Mem → Prop} (hS : S.loc = []) (ha : args.length ≤ 12) (h : fnF false Go.Proofs.Tryz.prog ir_51 args S Q) : SC Go.Proofs.Tryz.prog 51 args S Q := SC.walk mix Go.Proofs.Tryz.func51 tr_51 hS ha h
/- (*gatewarden/gatemake.Stream).RightScopes -/
def h_28 : FHint := hn [] [] [] [(0, [0]), (1, [0, 3]), (2, [0, 3, 5, 6]), (3, [0, 3, 5, 6, 7]), (4, [0, 3, 5, 6]), (5, [0, 3, 5, 6]), (6, [2])] [(3, [0, 3, 5, 6])]
def ir_28_l0 : IR :=
 (.seq
  (.ops [
    ⟨(some 7), .op (.bin .lss .num), [.r 6, .r 5], none⟩] (some [0, 3, 5, 6, 7]))
  (.seq
   (.cond (.r 7)
    .skip
    (.exit 0))
   (.seq
    (.block 1
     (.ops [
       ⟨(some 8), .op (.mv), [.r 3], none⟩,
       ⟨(some 9), .op (.mv), [.r 0], none⟩,
       ⟨(some 10), .op (.bsl 1), [.k (.p (.str [97])), .k (.p (.str [97, 58, 42])), .k (.p (.str [97, 58, 98])), .k (.p (.str [97, 58, 98, 58, 42])), .k (.p (.str [97, 58, 98, 58, 99])), .k (.p (.str [98])), .k (.p (.str [98, 58, 42])), .k (.p (.str [98, 58, 99])), .k (.p (.str [42]))], none⟩,
       ⟨(some 11), .call 18, [.r 9, .r 10], none⟩,
       ⟨(some 12), .op (.bsl 1), [.r 11], none⟩,
       ⟨(some 13), .op (.app 1 9 16 false), [.r 8, .r 12], none⟩,
       ⟨(some 3), .op (.mv), [.r 13], none⟩] (some [0, 3, 5, 6])))
    (.ops [
      ⟨(some 14), .op (.bin .add .num), [.r 6, .k (.p (.int .i64 1))], none⟩,
      ⟨(some 6), .op (.mv), [.r 14], none⟩] (some [0, 3, 5, 6])))))
def ir_28 : IFun := ⟨16, [.t 2],
 (.seq
  (.ops [
    ⟨(some 2), .op (.mv), [.k (.nsl true)], none⟩] (some [0]))
  (.seq
   (.ops [
     ⟨(some 3), .op (.mv), [.k (.nsl true)], none⟩] (some [0, 3]))
   (.seq
    (.seq
     (.ops [
       ⟨(some 4), .op (.mv), [.r 0], none⟩,
       ⟨(some 5), .call 13, [.r 4, .k (.p (.int .i64 0)), .k (.p (.int .i64 4))], none⟩,
       ⟨(some 6), .op (.mv), [.k (.p (.int .i64 0))], none⟩] (some [0, 3, 5, 6]))
     (.block 0
      (.loop (some [0, 3, 5, 6]) ir_28_l0)))
    (.seq
     (.ops [
       ⟨(some 15), .op (.mv), [.r 3], none⟩,
       ⟨(some 2), .op (.mv), [.r 15], none⟩] (some [2]))
     .ret))))⟩
theorem tr_28 : trFn Go.Proofs.Tryz.prog h_28 Go.Proofs.Tryz.f28 = some ir_28 := by kernel_rfl
theorem walk_28 {args : List RV} {S : Mem} {Q : RV → Mem → Prop} (hS : S.loc = []) (ha : args.length ≤ 16) (h : fnF false Go.Proofs.Tryz.prog ir_28 args S Q) : SC Go.Proofs.Tryz.prog 28 args S Q := SC.walk mix Go.Proofs.Tryz.func28 tr_28 hS ha h
/- (*gatewarden/gatemake.Stream).RightCatalog -/
def h_48 : FHint := hn [] [] [] [(0, [0, 2]), (1, [0, 2, 3]), (2, [0, 2, 3, 15, 16, 17]), (3, [0, 2, 3, 15, 16, 17, 18]), (4, [0, 2, 3, 5, 15, 16, 17]), (5, [0, 2, 3, 5, 15, 16, 17, 22]), (6, [0, 2, 3, 6, 15, 16, 17]), (7, [0, 2, 3, 6, 7, 15, 16, 17]), (8, [0, 2, 3, 6, 7, 15, 16, 17, 44, 45]), (9, [0, 2, 3, 6, 7, 15, 16, 17, 44, 45, 46]), (10, [0, 2, 3, 6, 7, 15, 16, 17, 44, 45]), (11, [0, 2, 3, 6, 7, 15, 16, 17, 44, 45]), (12, [0, 2, 3, 6, 7, 15, 16, 17, 44, 45]), (13, [0, 2, 3, 15, 16, 17]), (14, [0, 2, 3, 15, 16, 17]), (15, [2])] [(3, [0, 2, 3, 15, 16, 17]), (9, [0, 2, 3, 6, 7, 15, 16, 17, 44, 45])]
def ir_48_l0 : IR :=
 (.seq
  (.ops [
    ⟨(some 46), .op (.bin .lss .num), [.r 45, .r 44], none⟩] (some [0, 2, 3, 6, 7, 15, 16, 17, 44, 45, 46]))
  (.seq
   (.cond (.r 46)
    .skip
    (.exit 2))
   (.seq
    (.block 3
     (.seq
      (.opsD [
        ⟨(some 47), .op (.fa 4), [.r 6], none⟩,
        ⟨(some 48), .op (.ld none), [.r 47], none⟩,
        ⟨(some 49), .op (.mv), [.r 7], none⟩,
        ⟨(some 50), .op (.mv), [.r 0], none⟩,
        ⟨(some 51), .op (.bsl 1), [.k (.p (.int .i64 0)), .k (.p (.int .i64 100)), .k (.p (.int .i64 500)), .k (.p (.int .i64 1500))], none⟩,
        ⟨(some 52), .call 51, [.r 50, .r 51], none⟩,
        ⟨(some 53), .op (.build [(.p (.int .i64 0)), (.p (.int .i64 0))] [(0, 1), (1, 1)] [0, 1]), [.r 49, .r 52], none⟩,
        ⟨(some 54), .op (.bsl 2), [.r 53], none⟩,
        ⟨(some 55), .op (.app 2 182 16 false), [.r 48, .r 54], none⟩,
        ⟨(some 56), .op (.fa 4), [.r 6], none⟩,
        ⟨none, .op (.st 1), [.r 56, .r 55], none⟩] [(1, 5)] (some [0, 2, 3, 6, 7, 15, 16, 17, 44, 45]))
      (.ops [
        ⟨(some 57), .op (.mv), [.r 7], none⟩,
        ⟨(some 58), .op (.mv), [.r 0], none⟩,
        ⟨(some 59), .op (.bsl 1), [.k (.p (.int .i64 1)), .k (.p (.int .i64 9)), .k (.p (.int .i64 100))], none⟩,
        ⟨(some 60), .call 51, [.r 58, .r 59], none⟩,
        ⟨(some 61), .op (.bin .add .num), [.r 57, .r 60], none⟩,
        ⟨(some 7), .op (.mv), [.r 61], none⟩] (some [0, 2, 3, 6, 7, 15, 16, 17, 44, 45]))))
    (.ops [
      ⟨(some 62), .op (.bin .add .num), [.r 45, .k (.p (.int .i64 1))], none⟩,
      ⟨(some 45), .op (.mv), [.r 62], none⟩] (some [0, 2, 3, 6, 7, 15, 16, 17, 44, 45])))))
def ir_48_l1 : IR :=
 (.seq
  (.ops [
    ⟨(some 18), .op (.bin .lss .num), [.r 17, .r 16], none⟩] (some [0, 2, 3, 15, 16, 17, 18]))
  (.seq
   (.cond (.r 18)
    .skip
    (.exit 0))
   (.seq
    (.block 1
     (.seq
      (.ops [
        ⟨(some 19), .op (.ia 1), [.r 15, .r 17], none⟩,
        ⟨(some 20), .op (.ld none), [.r 19], none⟩,
        ⟨(some 5), .op (.mv), [.r 20], none⟩] (some [0, 2, 3, 5, 15, 16, 17]))
      (.seq
       (.seq
        (.ops [
          ⟨(some 21), .op (.mv), [.r 0], none⟩,
          ⟨(some 22), .call 12, [.r 21, .k (.p (.int .i64 5))], none⟩] (some [0, 2, 3, 5, 15, 16, 17, 22]))
        (.cond (.r 22)
         (.exit 1)
         .skip))
       (.seq
        (.ops [
          ⟨(some 23), .op (.mv), [.r 5], none⟩,
          ⟨(some 24), .op (.mv), [.r 0], none⟩,
          ⟨(some 25), .op (.bsl 1), [.k (.p (.str [115, 104, 111, 112])), .k (.p (.str [115, 104, 111, 112])), .k (.p (.str [109, 97, 112, 115]))], none⟩,
          ⟨(some 26), .call 18, [.r 24, .r 25], none⟩,
          ⟨(some 27), .op (.mv), [.r 0], none⟩,
          ⟨(some 28), .op (.bsl 1), [.k (.p (.int .i64 0)), .k (.p (.int .i64 0)), .k (.p (.int .i64 1000)), .k (.p (.int .i64 3000)), .k (.p (.int .i64 31))], none⟩,
          ⟨(some 29), .call 51, [.r 27, .r 28], none⟩,
          ⟨(some 30), .op (.mv), [.r 0], none⟩,
          ⟨(some 31), .op (.bsl 1), [.k (.p (.int .i64 0)), .k (.p (.int .i64 10)), .k (.p (.int .i64 100))], none⟩,
          ⟨(some 32), .call 51, [.r 30, .r 31], none⟩,
          ⟨(some 33), .op (.mv), [.r 0], none⟩,
          ⟨(some 34), .op (.bsl 1), [.k (.p (.int .i64 (-1))), .k (.p (.int .i64 (-1))), .k (.p (.int .i64 0)), .k (.p (.int .i64 1000))], none⟩,
          ⟨(some 35), .call 51, [.r 33, .r 34], none⟩,
          ⟨(some 36), .op (.mv), [.r 0], none⟩,
          ⟨(some 37), .op (.bsl 1), [.k (.p (.int .i64 0)), .k (.p (.int .i64 0)), .k (.p (.int .i64 1)), .k (.p (.int .i64 2))], none⟩,
          ⟨(some 38), .call 51, [.r 36, .r 37], none⟩,
          ⟨(some 39), .op (.mv), [.r 0], none⟩,
          ⟨(some 40), .call 12, [.r 39, .k (.p (.int .i64 2))], none⟩,
          ⟨(some 41), .op (.build [(.p (.str [])), (.p (.str [])), (.p (.int .i64 0)), (.p (.int .i64 0)), (.nsl true), (.p (.int .i64 0)), (.p (.int .i64 0)), (.p (.bool false))] [(0, 1), (1, 1), (2, 1), (3, 1), (4, 1), (5, 1), (6, 1), (7, 1)] [0, 1, 2, 3, 5, 6, 7]), [.r 23, .r 26, .r 29, .r 32, .r 35, .r 38, .r 40], none⟩,
          ⟨(some 6), .op (.allocL 6 [(.p (.str [])), (.p (.str [])), (.p (.int .i64 0)), (.p (.int .i64 0)), (.nsl true), (.p (.int .i64 0)), (.p (.int .i64 0)), (.p (.bool false))]), [], none⟩,
          ⟨none, .op (.st 8), [.r 6, .r 41], none⟩] (some [0, 2, 3, 6, 15, 16, 17]))
        (.seq
         (.ops [
           ⟨(some 7), .op (.mv), [.k (.p (.int .i64 1))], none⟩] (some [0, 2, 3, 6, 7, 15, 16, 17]))
         (.seq
          (.seq
           (.ops [
             ⟨(some 42), .op (.mv), [.r 0], none⟩,
             ⟨(some 43), .op (.bsl 1), [.k (.p (.int .i64 0)), .k (.p (.int .i64 1)), .k (.p (.int .i64 2)), .k (.p (.int .i64 3))], none⟩,
             ⟨(some 44), .call 51, [.r 42, .r 43], none⟩,
             ⟨(some 45), .op (.mv), [.k (.p (.int .i64 0))], none⟩] (some [0, 2, 3, 6, 7, 15, 16, 17, 44, 45]))
           (.block 2
            (.loop (some [0, 2, 3, 6, 7, 15, 16, 17, 44, 45]) ir_48_l0)))
          (.ops [
            ⟨(some 63), .op (.fa 1), [.r 3], none⟩,
            ⟨(some 64), .op (.ld none), [.r 63], none⟩,
            ⟨(some 65), .op (.ld (some 8)), [.r 6], none⟩,
            ⟨(some 66), .op (.bsl 8), [.r 65], none⟩,
            ⟨(some 67), .op (.app 8 109 96 false), [.r 64, .r 66], none⟩,
            ⟨(some 68), .op (.fa 1), [.r 3], none⟩,
            ⟨none, .op (.st 1), [.r 68, .r 67], none⟩] (some [0, 2, 3, 15, 16, 17]))))))))
    (.ops [
      ⟨(some 69), .op (.bin .add .num), [.r 17, .k (.p (.int .i64 1))], none⟩,
      ⟨(some 17), .op (.mv), [.r 69], none⟩] (some [0, 2, 3, 15, 16, 17])))))
def ir_48 : IFun := ⟨71, [.c 2 (some 2)],
 (.seq
  (.ops [
    ⟨(some 2), .op (.allocL 2 [(.nsl true), (.nsl true)]), [], none⟩] (some [0, 2]))
  (.seq
   (.ops [
     ⟨(some 8), .op (.mv), [.r 0], none⟩,
     ⟨(some 9), .call 28, [.r 8], none⟩,
     ⟨(some 10), .op (.build [(.p (.str [])), (.nsl true)] [(0, 1), (1, 1)] [0, 1]), [.k (.p (.str [109, 97, 112, 115])), .r 9], none⟩,
     ⟨(some 11), .op (.bsl 1), [.k (.p (.str [111, 114, 100, 101, 114, 115]))], none⟩,
     ⟨(some 12), .op (.build [(.p (.str [])), (.nsl true)] [(0, 1), (1, 1)] [0, 1]), [.k (.p (.str [115, 104, 111, 112])), .r 11], none⟩,
     ⟨(some 13), .op (.bsl 2), [.r 10, .r 12], none⟩,
     ⟨(some 14), .op (.build [(.nsl true), (.nsl true)] [(0, 1), (1, 1)] [0]), [.r 13], none⟩,
     ⟨(some 3), .op (.allocL 3 [(.nsl true), (.nsl true)]), [], none⟩,
     ⟨none, .op (.st 2), [.r 3, .r 14], none⟩] (some [0, 2, 3]))
   (.seq
    (.seq
     (.ops [
       ⟨(some 15), .op (.bsl 1), [.k (.p (.str [98, 105, 103])), .k (.p (.str [102, 114, 101, 101])), .k (.p (.str [109, 105, 100])), .k (.p (.str [115, 109, 97, 108, 108]))], none⟩,
       ⟨(some 16), .op (.lenl), [.r 15], none⟩,
       ⟨(some 17), .op (.mv), [.k (.p (.int .i64 0))], none⟩] (some [0, 2, 3, 15, 16, 17]))
     (.block 0
      (.loop (some [0, 2, 3, 15, 16, 17]) ir_48_l1)))
    (.seq
     (.ops [
       ⟨(some 70), .op (.ld (some 2)), [.r 3], none⟩,
       ⟨none, .op (.st 2), [.r 2, .r 70], none⟩] (some [2]))
     .ret))))⟩
theorem tr_48 : trFn Go.Proofs.Tryz.prog h_48 Go.Proofs.Tryz.f48 = some ir_48 := by kernel_rfl
theorem walk_48 {args : List RV} {S : Mem} {Q : RV → Mem → Prop} (hS : S.loc = []) (ha : args.length ≤ 71) (h : fnF false Go.Proofs.Tryz.prog ir_48 args S Q) : SC Go.Proofs.Tryz.prog 48 args S Q := SC.walk mix Go.Proofs.Tryz.func48 tr_48 hS ha h
/- gatewarden/token.CheckScopes -/
def h_89 : FHint := hn [] [] [] [(0, [0]), (1, [0, 7]), (2, [2]), (3, [8, 9, 10]), (4, [8, 9, 10, 11]), (5, [4, 8, 9, 10]), (6, [8, 9, 10, 16]), (7, [2]), (8, [8, 9, 10]), (9, [2])] [(4, [8, 9, 10])]
def ir_89_l0 : IR :=
 (.seq
  (.ops [
    ⟨(some 11), .op (.bin .lss .num), [.r 10, .r 9], none⟩] (some [8, 9, 10, 11]))
  (.seq
   (.cond (.r 11)
    .skip
    (.exit 0))
   (.seq
    (.block 1
     (.seq
      (.ops [
        ⟨(some 12), .op (.ia 1), [.r 8, .r 10], none⟩,
        ⟨(some 13), .op (.ld none), [.r 12], none⟩,
        ⟨(some 4), .op (.mv), [.r 13], none⟩] (some [4, 8, 9, 10]))
      (.seq
       (.ops [
         ⟨(some 14), .op (.mv), [.r 4], none⟩,
         ⟨(some 15), .callP 150, [.r 14], none⟩,
         ⟨(some 16), .op (.un .not), [.r 15], none⟩] (some [8, 9, 10, 16]))
       (.cond (.r 16)
        (.seq
         (.ops [
           ⟨(some 2), .op (.mv), [.k (.p (.int .i64 3))], none⟩] (some [2]))
         .ret)
        .skip))))
    (.ops [
      ⟨(some 17), .op (.bin .add .num), [.r 10, .k (.p (.int .i64 1))], none⟩,
      ⟨(some 10), .op (.mv), [.r 17], none⟩] (some [8, 9, 10])))))
def ir_89 : IFun := ⟨18, [.t 2],
 (.seq
  (.ops [
    ⟨(some 2), .op (.mv), [.k (.p (.int .i64 0))], none⟩] (some [0]))
  (.seq
   (.seq
    (.ops [
      ⟨(some 5), .op (.mv), [.r 0], none⟩,
      ⟨(some 6), .op (.lenl), [.r 5], none⟩,
      ⟨(some 7), .op (.bin .gtr .num), [.r 6, .k (.p (.int .i64 50))], none⟩] (some [0, 7]))
    (.cond (.r 7)
     (.seq
      (.ops [
        ⟨(some 2), .op (.mv), [.k (.p (.int .i64 2))], none⟩] (some [2]))
      .ret)
     .skip))
   (.seq
    (.seq
     (.ops [
       ⟨(some 8), .op (.mv), [.r 0], none⟩,
       ⟨(some 9), .op (.lenl), [.r 8], none⟩,
       ⟨(some 10), .op (.mv), [.k (.p (.int .i64 0))], none⟩] (some [8, 9, 10]))
     (.block 0
      (.loop (some [8, 9, 10]) ir_89_l0)))
    (.seq
     (.ops [
       ⟨(some 2), .op (.mv), [.k (.p (.int .i64 0))], none⟩] (some [2]))
     .ret))))⟩
theorem tr_89 : trFn Go.Proofs.Tryz.prog h_89 Go.Proofs.Tryz.f89 = some ir_89 := by kernel_rfl
theorem walk_89 {args : List RV} {S : Mem} {Q : RV → Mem → Prop} (hS : S.loc = []) (ha : args.length ≤ 18) (h : fnF false Go.Proofs.Tryz.prog ir_89 args S Q) : SC Go.Proofs.Tryz.prog 89 args S Q := SC.walk mix Go.Proofs.Tryz.func89 tr_89 hS ha h
/- gatewarden/portal.productsFault -/
def h_166 : FHint := hn [] [] [] [(0, [0]), (1, [0, 8]), (2, [2]), (3, [0, 9, 10, 11]), (4, [0, 9, 10, 11, 12]), (5, [0, 3, 4, 9, 10, 11]), (6, [0, 3, 4, 9, 10, 11, 19]), (7, [2]), (8, [0, 4, 9, 10, 11, 32]), (9, [2]), (10, [0, 5, 9, 10, 11]), (11, [0, 5, 9, 10, 11, 37]), (12, [2]), (13, [0, 9, 10, 11]), (14, [2])] [(4, [0, 9, 10, 11])]
def ir_166_l0 : IR :=
 (.seq
  (.ops [
    ⟨(some 12), .op (.bin .lss .num), [.r 11, .r 10], none⟩] (some [0, 9, 10, 11, 12]))
  (.seq
   (.cond (.r 12)
    .skip
    (.exit 0))
   (.seq
    (.block 1
     (.seq
      (.ops [
        ⟨(some 13), .op (.mv), [.r 11], none⟩,
        ⟨(some 14), .op (.ia 2), [.r 9, .r 11], none⟩,
        ⟨(some 15), .op (.ld (some 2)), [.r 14], none⟩,
        ⟨(some 4), .op (.allocL 4 [(.p (.str [])), (.nsl true)]), [], none⟩,
        ⟨(some 3), .op (.mv), [.r 13], none⟩,
        ⟨none, .op (.st 2), [.r 4, .r 15], none⟩] (some [0, 3, 4, 9, 10, 11]))
      (.seq
       (.seq
        (.ops [
          ⟨(some 16), .op (.fa 0), [.r 4], none⟩,
          ⟨(some 17), .op (.ld none), [.r 16], none⟩,
          ⟨(some 18), .callP 155, [.r 17], none⟩,
          ⟨(some 19), .op (.un .not), [.r 18], none⟩] (some [0, 3, 4, 9, 10, 11, 19]))
        (.cond (.r 19)
         (.seq
          (.ops [
            ⟨(some 2), .op (.mv), [.k (.p (.int .i64 5))], none⟩] (some [2]))
          .ret)
         .skip))
       (.seq
        (.seq
         (.opsD [
           ⟨(some 20), .op (.mv), [.r 3], none⟩,
           ⟨(some 21), .op (.bin .gtr .num), [.r 20, .k (.p (.int .i64 0))], none⟩,
           ⟨(some 22), .op (.mv), [.r 21], none⟩,
           ⟨(some 23), .op (.fa 0), [.r 4], (some (22, true))⟩,
           ⟨(some 24), .op (.ld none), [.r 23], (some (22, true))⟩,
           ⟨(some 25), .op (.mv), [.r 0], (some (22, true))⟩,
           ⟨(some 26), .op (.mv), [.r 3], (some (22, true))⟩,
           ⟨(some 27), .op (.bin .sub .num), [.r 26, .k (.p (.int .i64 1))], (some (22, true))⟩,
           ⟨(some 28), .op (.ia 2), [.r 25, .r 27], (some (22, true))⟩,
           ⟨(some 29), .op (.fa 0), [.r 28], (some (22, true))⟩,
           ⟨(some 30), .op (.ld none), [.r 29], (some (22, true))⟩,
           ⟨(some 31), .op (.bin .leq .num), [.r 24, .r 30], (some (22, true))⟩,
           ⟨(some 32), .op (.pick), [.r 22, .r 31, .k (.p (.bool false))], none⟩] [] (some [0, 4, 9, 10, 11, 32]))
         (.cond (.r 32)
          (.seq
           (.ops [
             ⟨(some 2), .op (.mv), [.k (.p (.int .i64 7))], none⟩] (some [2]))
           .ret)
          .skip))
        (.seq
         (.ops [
           ⟨(some 33), .op (.fa 1), [.r 4], none⟩,
           ⟨(some 34), .op (.ld none), [.r 33], none⟩,
           ⟨(some 35), .callP 89, [.r 34], none⟩,
           ⟨(some 5), .op (.mv), [.r 35], none⟩] (some [0, 5, 9, 10, 11]))
         (.seq
          (.ops [
            ⟨(some 36), .op (.mv), [.r 5], none⟩,
            ⟨(some 37), .op (.bin .neq .num), [.r 36, .k (.p (.int .i64 0))], none⟩] (some [0, 5, 9, 10, 11, 37]))
          (.cond (.r 37)
           (.seq
            (.ops [
              ⟨(some 38), .op (.mv), [.r 5], none⟩,
              ⟨(some 2), .op (.mv), [.r 38], none⟩] (some [2]))
            .ret)
           .skip)))))))
    (.ops [
      ⟨(some 39), .op (.bin .add .num), [.r 11, .k (.p (.int .i64 1))], none⟩,
      ⟨(some 11), .op (.mv), [.r 39], none⟩] (some [0, 9, 10, 11])))))
def ir_166 : IFun := ⟨40, [.t 2],
 (.seq
  (.ops [
    ⟨(some 2), .op (.mv), [.k (.p (.int .i64 0))], none⟩] (some [0]))
  (.seq
   (.seq
    (.ops [
      ⟨(some 6), .op (.mv), [.r 0], none⟩,
      ⟨(some 7), .op (.lenl), [.r 6], none⟩,
      ⟨(some 8), .op (.bin .gtr .num), [.r 7, .k (.p (.int .i64 100))], none⟩] (some [0, 8]))
    (.cond (.r 8)
     (.seq
      (.ops [
        ⟨(some 2), .op (.mv), [.k (.p (.int .i64 2))], none⟩] (some [2]))
      .ret)
     .skip))
   (.seq
    (.seq
     (.ops [
       ⟨(some 9), .op (.mv), [.r 0], none⟩,
       ⟨(some 10), .op (.lenl), [.r 9], none⟩,
       ⟨(some 11), .op (.mv), [.k (.p (.int .i64 0))], none⟩] (some [0, 9, 10, 11]))
     (.block 0
      (.loop (some [0, 9, 10, 11]) ir_166_l0)))
    (.seq
     (.ops [
       ⟨(some 2), .op (.mv), [.k (.p (.int .i64 0))], none⟩] (some [2]))
     .ret))))⟩
theorem tr_166 : trFn Go.Proofs.Tryz.prog h_166 Go.Proofs.Tryz.f166 = some ir_166 := by kernel_rfl
theorem walk_166 {args : List RV} {S : Mem} {Q : RV → Mem → Prop} (hS : S.loc = []) (ha : args.length ≤ 40) (h : fnF false Go.Proofs.Tryz.prog ir_166 args S Q) : SC Go.Proofs.Tryz.prog 166 args S Q := SC.walk mix Go.Proofs.Tryz.func166 tr_166 hS ha h
/- gatewarden/portal.tiersFault -/
def h_219 : FHint := hn [] [] [] [(0, [0]), (1, [0, 7]), (2, [2]), (3, [0, 8, 9, 10]), (4, [0, 8, 9, 10, 11]), (5, [0, 3, 4, 8, 9, 10]), (6, [0, 3, 4, 8, 9, 10, 22]), (7, [2]), (8, [0, 8, 9, 10, 35]), (9, [2]), (10, [0, 8, 9, 10]), (11, [46]), (12, [2]), (13, [2])] [(4, [0, 8, 9, 10])]
def ir_219_l0 : IR :=
 (.seq
  (.ops [
    ⟨(some 11), .op (.bin .lss .num), [.r 10, .r 9], none⟩] (some [0, 8, 9, 10, 11]))
  (.seq
   (.cond (.r 11)
    .skip
    (.exit 0))
   (.seq
    (.block 1
     (.seq
      (.ops [
        ⟨(some 12), .op (.mv), [.r 10], none⟩,
        ⟨(some 13), .op (.ia 2), [.r 8, .r 10], none⟩,
        ⟨(some 14), .op (.ld (some 2)), [.r 13], none⟩,
        ⟨(some 4), .op (.allocL 4 [(.p (.int .i64 0)), (.p (.int .i64 0))]), [], none⟩,
        ⟨(some 3), .op (.mv), [.r 12], none⟩,
        ⟨none, .op (.st 2), [.r 4, .r 14], none⟩] (some [0, 3, 4, 8, 9, 10]))
      (.seq
       (.seq
        (.ops [
          ⟨(some 15), .op (.fa 0), [.r 4], none⟩,
          ⟨(some 16), .op (.ld none), [.r 15], none⟩,
          ⟨(some 17), .callP 65, [.r 16, .k (.p (.int .i64 1)), .k (.p (.int .i64 1000000000000))], none⟩,
          ⟨(some 18), .op (.mv), [.r 17], none⟩,
          ⟨(some 19), .op (.fa 1), [.r 4], (some (18, false))⟩,
          ⟨(some 20), .op (.ld none), [.r 19], (some (18, false))⟩,
          ⟨(some 21), .callP 65, [.r 20, .k (.p (.int .i64 0)), .k (.p (.int .i64 1000000))], (some (18, false))⟩,
          ⟨(some 22), .op (.pick), [.r 18, .k (.p (.bool true)), .r 21], none⟩] (some [0, 3, 4, 8, 9, 10, 22]))
        (.cond (.r 22)
         (.seq
          (.ops [
            ⟨(some 2), .op (.mv), [.k (.p (.int .i64 1))], none⟩] (some [2]))
          .ret)
         .skip))
       (.seq
        (.opsD [
          ⟨(some 23), .op (.mv), [.r 3], none⟩,
          ⟨(some 24), .op (.bin .gtr .num), [.r 23, .k (.p (.int .i64 0))], none⟩,
          ⟨(some 25), .op (.mv), [.r 24], none⟩,
          ⟨(some 26), .op (.fa 0), [.r 4], (some (25, true))⟩,
          ⟨(some 27), .op (.ld none), [.r 26], (some (25, true))⟩,
          ⟨(some 28), .op (.mv), [.r 0], (some (25, true))⟩,
          ⟨(some 29), .op (.mv), [.r 3], (some (25, true))⟩,
          ⟨(some 30), .op (.bin .sub .num), [.r 29, .k (.p (.int .i64 1))], (some (25, true))⟩,
          ⟨(some 31), .op (.ia 2), [.r 28, .r 30], (some (25, true))⟩,
          ⟨(some 32), .op (.fa 0), [.r 31], (some (25, true))⟩,
          ⟨(some 33), .op (.ld none), [.r 32], (some (25, true))⟩,
          ⟨(some 34), .op (.bin .leq .num), [.r 27, .r 33], (some (25, true))⟩,
          ⟨(some 35), .op (.pick), [.r 25, .r 34, .k (.p (.bool false))], none⟩] [] (some [0, 8, 9, 10, 35]))
        (.cond (.r 35)
         (.seq
          (.ops [
            ⟨(some 2), .op (.mv), [.k (.p (.int .i64 7))], none⟩] (some [2]))
          .ret)
         .skip)))))
    (.ops [
      ⟨(some 36), .op (.bin .add .num), [.r 10, .k (.p (.int .i64 1))], none⟩,
      ⟨(some 10), .op (.mv), [.r 36], none⟩] (some [0, 8, 9, 10])))))
def ir_219 : IFun := ⟨47, [.t 2],
 (.seq
  (.ops [
    ⟨(some 2), .op (.mv), [.k (.p (.int .i64 0))], none⟩] (some [0]))
  (.seq
   (.seq
    (.ops [
      ⟨(some 5), .op (.mv), [.r 0], none⟩,
      ⟨(some 6), .op (.lenl), [.r 5], none⟩,
      ⟨(some 7), .op (.bin .gtr .num), [.r 6, .k (.p (.int .i64 20))], none⟩] (some [0, 7]))
    (.cond (.r 7)
     (.seq
      (.ops [
        ⟨(some 2), .op (.mv), [.k (.p (.int .i64 2))], none⟩] (some [2]))
      .ret)
     .skip))
   (.seq
    (.seq
     (.ops [
       ⟨(some 8), .op (.mv), [.r 0], none⟩,
       ⟨(some 9), .op (.lenl), [.r 8], none⟩,
       ⟨(some 10), .op (.mv), [.k (.p (.int .i64 0))], none⟩] (some [0, 8, 9, 10]))
     (.block 0
      (.loop (some [0, 8, 9, 10]) ir_219_l0)))
    (.seq
     (.seq
      (.ops [
        ⟨(some 37), .op (.mv), [.r 0], none⟩,
        ⟨(some 38), .op (.lenl), [.r 37], none⟩,
        ⟨(some 39), .op (.bin .gtr .num), [.r 38, .k (.p (.int .i64 0))], none⟩,
        ⟨(some 40), .op (.mv), [.r 39], none⟩,
        ⟨(some 41), .op (.mv), [.r 0], (some (40, true))⟩,
        ⟨(some 42), .op (.ia 2), [.r 41, .k (.p (.int .i64 0))], (some (40, true))⟩,
        ⟨(some 43), .op (.fa 0), [.r 42], (some (40, true))⟩,
        ⟨(some 44), .op (.ld none), [.r 43], (some (40, true))⟩,
        ⟨(some 45), .op (.bin .neq .num), [.r 44, .k (.p (.int .i64 1))], (some (40, true))⟩,
        ⟨(some 46), .op (.pick), [.r 40, .r 45, .k (.p (.bool false))], none⟩] (some [46]))
      (.cond (.r 46)
       (.seq
        (.ops [
          ⟨(some 2), .op (.mv), [.k (.p (.int .i64 3))], none⟩] (some [2]))
        .ret)
       .skip))
     (.seq
      (.ops [
        ⟨(some 2), .op (.mv), [.k (.p (.int .i64 0))], none⟩] (some [2]))
      .ret)))))⟩
theorem tr_219 : trFn Go.Proofs.Tryz.prog h_219 Go.Proofs.Tryz.f219 = some ir_219 := by kernel_rfl
theorem walk_219 {args : List RV} {S : Mem} {Q : RV → Mem → Prop} (hS : S.loc = []) (ha : args.length ≤ 47) (h : fnF false Go.Proofs.Tryz.prog ir_219 args S Q) : SC Go.Proofs.Tryz.prog 219 args S Q := SC.walk mix Go.Proofs.Tryz.func219 tr_219 hS ha h
/- gatewarden/portal.planFault -/
def h_167 : FHint := hn [] [] [] [(0, [1, 2]), (1, [1, 2, 5]), (2, [1, 2, 5, 14]), (4, [2, 5, 19]), (5, [4]), (3, [4]), (6, [5, 7]), (7, [5, 42]), (8, [4]), (9, [5, 50]), (10, [4]), (11, [5, 8]), (12, [5, 8, 55]), (13, [4]), (14, [64]), (15, [4]), (16, [4])] []
def ir_167 : IFun := ⟨65, [.t 4],
 (.seq
  (.ops [
    ⟨(some 2), .op (.boxL 2), [.r 0], none⟩,
    ⟨(some 4), .op (.mv), [.k (.p (.int .i64 0))], none⟩] (some [1, 2]))
  (.seq
   (.ops [
     ⟨(some 9), .op (.fa 1), [.r 2], none⟩,
     ⟨(some 10), .op (.ld none), [.r 9], none⟩,
     ⟨(some 11), .op (.mv), [.r 1], none⟩,
     ⟨(some 12), .op (.ia 8), [.r 10, .r 11], none⟩,
     ⟨(some 13), .op (.ld (some 8)), [.r 12], none⟩,
     ⟨(some 5), .op (.allocL 5 [(.p (.str [])), (.p (.str [])), (.p (.int .i64 0)), (.p (.int .i64 0)), (.nsl true), (.p (.int .i64 0)), (.p (.int .i64 0)), (.p (.bool false))]), [], none⟩,
     ⟨none, .op (.st 8), [.r 5, .r 13], none⟩] (some [1, 2, 5]))
   (.seq
    (.block 0
     (.seq
      (.ops [
        ⟨(some 15), .op (.fa 0), [.r 5], none⟩,
        ⟨(some 16), .op (.ld none), [.r 15], none⟩,
        ⟨(some 17), .callP 155, [.r 16], none⟩,
        ⟨(some 18), .op (.un .not), [.r 17], none⟩,
        ⟨(some 14), .op (.mv), [.r 18], none⟩] (some [1, 2, 5, 14]))
      (.cond (.r 14)
       (.seq
        (.ops [
          ⟨(some 4), .op (.mv), [.k (.p (.int .i64 5))], none⟩] (some [4]))
        .ret)
       (.seq
        (.opsD [
          ⟨(some 20), .op (.mv), [.r 1], none⟩,
          ⟨(some 21), .op (.bin .gtr .num), [.r 20, .k (.p (.int .i64 0))], none⟩,
          ⟨(some 22), .op (.mv), [.r 21], none⟩,
          ⟨(some 23), .op (.fa 0), [.r 5], (some (22, true))⟩,
          ⟨(some 24), .op (.ld none), [.r 23], (some (22, true))⟩,
          ⟨(some 25), .op (.fa 1), [.r 2], (some (22, true))⟩,
          ⟨(some 26), .op (.ld none), [.r 25], (some (22, true))⟩,
          ⟨(some 27), .op (.mv), [.r 1], (some (22, true))⟩,
          ⟨(some 28), .op (.bin .sub .num), [.r 27, .k (.p (.int .i64 1))], (some (22, true))⟩,
          ⟨(some 29), .op (.ia 8), [.r 26, .r 28], (some (22, true))⟩,
          ⟨(some 30), .op (.fa 0), [.r 29], (some (22, true))⟩,
          ⟨(some 31), .op (.ld none), [.r 30], (some (22, true))⟩,
          ⟨(some 32), .op (.bin .leq .num), [.r 24, .r 31], (some (22, true))⟩,
          ⟨(some 33), .op (.pick), [.r 22, .r 32, .k (.p (.bool false))], none⟩,
          ⟨(some 19), .op (.mv), [.r 33], none⟩] [] (some [2, 5, 19]))
        (.cond (.r 19)
         (.seq
          (.ops [
            ⟨(some 4), .op (.mv), [.k (.p (.int .i64 7))], none⟩] (some [4]))
          .ret)
         .skip)))))
    (.seq
     (.seq
      (.ops [
        ⟨(some 35), .op (.ld (some 2)), [.r 2], none⟩,
        ⟨(some 36), .op (.fa 1), [.r 5], none⟩,
        ⟨(some 37), .op (.ld none), [.r 36], none⟩,
        ⟨(some 38), .callP 108, [.r 35, .r 37], none⟩,
        ⟨(some 34), .op (.mv), [.r 38], none⟩,
        ⟨(some 39), .op (.ext 0), [.r 34], none⟩,
        ⟨(some 40), .op (.ext 1), [.r 34], none⟩,
        ⟨(some 6), .op (.mv), [.r 39], none⟩,
        ⟨(some 7), .op (.mv), [.r 40], none⟩] (some [5, 7]))
      (.seq
       (.ops [
         ⟨(some 41), .op (.mv), [.r 7], none⟩,
         ⟨(some 42), .op (.un .not), [.r 41], none⟩] (some [5, 42]))
       (.cond (.r 42)
        (.seq
         (.ops [
           ⟨(some 4), .op (.mv), [.k (.p (.int .i64 8))], none⟩] (some [4]))
         .ret)
        .skip)))
     (.seq
      (.seq
       (.ops [
         ⟨(some 43), .op (.fa 2), [.r 5], none⟩,
         ⟨(some 44), .op (.ld none), [.r 43], none⟩,
         ⟨(some 45), .callP 65, [.r 44, .k (.p (.int .i64 0)), .k (.p (.int .i64 1000000000000))], none⟩,
         ⟨(some 46), .op (.mv), [.r 45], none⟩,
         ⟨(some 47), .op (.fa 3), [.r 5], (some (46, false))⟩,
         ⟨(some 48), .op (.ld none), [.r 47], (some (46, false))⟩,
         ⟨(some 49), .callP 65, [.r 48, .k (.p (.int .i64 0)), .k (.p (.int .i64 1000000000000))], (some (46, false))⟩,
         ⟨(some 50), .op (.pick), [.r 46, .k (.p (.bool true)), .r 49], none⟩] (some [5, 50]))
       (.cond (.r 50)
        (.seq
         (.ops [
           ⟨(some 4), .op (.mv), [.k (.p (.int .i64 1))], none⟩] (some [4]))
         .ret)
        .skip))
      (.seq
       (.seq
        (.ops [
          ⟨(some 51), .op (.fa 4), [.r 5], none⟩,
          ⟨(some 52), .op (.ld none), [.r 51], none⟩,
          ⟨(some 53), .callP 219, [.r 52], none⟩,
          ⟨(some 8), .op (.mv), [.r 53], none⟩] (some [5, 8]))
        (.seq
         (.ops [
           ⟨(some 54), .op (.mv), [.r 8], none⟩,
           ⟨(some 55), .op (.bin .neq .num), [.r 54, .k (.p (.int .i64 0))], none⟩] (some [5, 8, 55]))
         (.cond (.r 55)
          (.seq
           (.ops [
             ⟨(some 56), .op (.mv), [.r 8], none⟩,
             ⟨(some 4), .op (.mv), [.r 56], none⟩] (some [4]))
           .ret)
          .skip)))
       (.seq
        (.seq
         (.ops [
           ⟨(some 57), .op (.fa 5), [.r 5], none⟩,
           ⟨(some 58), .op (.ld none), [.r 57], none⟩,
           ⟨(some 59), .callP 65, [.r 58, .k (.p (.int .i64 (-1))), .k (.p (.int .i64 1000000000000))], none⟩,
           ⟨(some 60), .op (.mv), [.r 59], none⟩,
           ⟨(some 61), .op (.fa 6), [.r 5], (some (60, false))⟩,
           ⟨(some 62), .op (.ld none), [.r 61], (some (60, false))⟩,
           ⟨(some 63), .callP 65, [.r 62, .k (.p (.int .i64 0)), .k (.p (.int .i64 132))], (some (60, false))⟩,
           ⟨(some 64), .op (.pick), [.r 60, .k (.p (.bool true)), .r 63], none⟩] (some [64]))
         (.cond (.r 64)
          (.seq
           (.ops [
             ⟨(some 4), .op (.mv), [.k (.p (.int .i64 1))], none⟩] (some [4]))
           .ret)
          .skip))
        (.seq
         (.ops [
           ⟨(some 4), .op (.mv), [.k (.p (.int .i64 0))], none⟩] (some [4]))
         .ret))))))))⟩
theorem tr_167 : trFn Go.Proofs.Tryz.prog h_167 Go.Proofs.Tryz.f167 = some ir_167 := by kernel_rfl
theorem walk_167 {args : List RV} {S : Mem} {Q : RV → Mem → Prop} (hS : S.loc = []) (ha : args.length ≤ 65) (h : fnF false Go.Proofs.Tryz.prog ir_167 args S Q) : SC Go.Proofs.Tryz.prog 167 args S Q := SC.walk mix Go.Proofs.Tryz.func167 tr_167 hS ha h
/- gatewarden/portal.CheckCatalog -/
def h_107 : FHint := hn [] [] [] [(0, [1]), (1, [1, 3]), (2, [1, 3, 10]), (3, [2]), (4, [1, 15]), (5, [2]), (6, [1, 18, 19]), (7, [1, 18, 19, 20]), (8, [1, 4, 18, 19]), (9, [1, 5, 18, 19]), (10, [1, 5, 18, 19, 26]), (11, [2]), (12, [1, 18, 19]), (13, [2])] [(7, [1, 18, 19])]
def ir_107_l0 : IR :=
 (.seq
  (.ops [
    ⟨(some 20), .op (.bin .lss .num), [.r 19, .r 18], none⟩] (some [1, 18, 19, 20]))
  (.seq
   (.cond (.r 20)
    .skip
    (.exit 0))
   (.seq
    (.block 1
     (.seq
      (.ops [
        ⟨(some 21), .op (.mv), [.r 19], none⟩,
        ⟨(some 4), .op (.mv), [.r 21], none⟩] (some [1, 4, 18, 19]))
      (.seq
       (.ops [
         ⟨(some 22), .op (.ld (some 2)), [.r 1], none⟩,
         ⟨(some 23), .op (.mv), [.r 4], none⟩,
         ⟨(some 24), .callP 167, [.r 22, .r 23], none⟩,
         ⟨(some 5), .op (.mv), [.r 24], none⟩] (some [1, 5, 18, 19]))
       (.seq
        (.ops [
          ⟨(some 25), .op (.mv), [.r 5], none⟩,
          ⟨(some 26), .op (.bin .neq .num), [.r 25, .k (.p (.int .i64 0))], none⟩] (some [1, 5, 18, 19, 26]))
        (.cond (.r 26)
         (.seq
          (.ops [
            ⟨(some 27), .op (.mv), [.r 5], none⟩,
            ⟨(some 2), .op (.mv), [.r 27], none⟩] (some [2]))
          .ret)
         .skip)))))
    (.ops [
      ⟨(some 28), .op (.bin .add .num), [.r 19, .k (.p (.int .i64 1))], none⟩,
      ⟨(some 19), .op (.mv), [.r 28], none⟩] (some [1, 18, 19])))))
def ir_107 : IFun := ⟨29, [.t 2],
 (.seq
  (.ops [
    ⟨(some 1), .op (.boxL 1), [.r 0], none⟩,
    ⟨(some 2), .op (.mv), [.k (.p (.int .i64 0))], none⟩] (some [1]))
  (.seq
   (.seq
    (.ops [
      ⟨(some 6), .op (.fa 0), [.r 1], none⟩,
      ⟨(some 7), .op (.ld none), [.r 6], none⟩,
      ⟨(some 8), .callP 166, [.r 7], none⟩,
      ⟨(some 3), .op (.mv), [.r 8], none⟩] (some [1, 3]))
    (.seq
     (.ops [
       ⟨(some 9), .op (.mv), [.r 3], none⟩,
       ⟨(some 10), .op (.bin .neq .num), [.r 9, .k (.p (.int .i64 0))], none⟩] (some [1, 3, 10]))
     (.cond (.r 10)
      (.seq
       (.ops [
         ⟨(some 11), .op (.mv), [.r 3], none⟩,
         ⟨(some 2), .op (.mv), [.r 11], none⟩] (some [2]))
       .ret)
      .skip)))
   (.seq
    (.seq
     (.ops [
       ⟨(some 12), .op (.fa 1), [.r 1], none⟩,
       ⟨(some 13), .op (.ld none), [.r 12], none⟩,
       ⟨(some 14), .op (.lenl), [.r 13], none⟩,
       ⟨(some 15), .op (.bin .gtr .num), [.r 14, .k (.p (.int .i64 100))], none⟩] (some [1, 15]))
     (.cond (.r 15)
      (.seq
       (.ops [
         ⟨(some 2), .op (.mv), [.k (.p (.int .i64 2))], none⟩] (some [2]))
       .ret)
      .skip))
    (.seq
     (.seq
      (.ops [
        ⟨(some 16), .op (.fa 1), [.r 1], none⟩,
        ⟨(some 17), .op (.ld none), [.r 16], none⟩,
        ⟨(some 18), .op (.lenl), [.r 17], none⟩,
        ⟨(some 19), .op (.mv), [.k (.p (.int .i64 0))], none⟩] (some [1, 18, 19]))
      (.block 0
       (.loop (some [1, 18, 19]) ir_107_l0)))
     (.seq
      (.ops [
        ⟨(some 2), .op (.mv), [.k (.p (.int .i64 0))], none⟩] (some [2]))
      .ret)))))⟩
theorem tr_107 : trFn Go.Proofs.Tryz.prog h_107 Go.Proofs.Tryz.f107 = some ir_107 := by kernel_rfl
theorem walk_107 {args : List RV} {S : Mem} {Q : RV → Mem → Prop} (hS : S.loc = []) (ha : args.length ≤ 29) (h : fnF false Go.Proofs.Tryz.prog ir_107 args S Q) : SC Go.Proofs.Tryz.prog 107 args S Q := SC.walk mix Go.Proofs.Tryz.func107 tr_107 hS ha h
/- gatewarden/portal.productAt -/
def h_108 : FHint := hn [] [] [] [(0, [1, 2]), (1, [4, 5])] []
def ir_108 : IFun := ⟨12, [.t 4, .t 5],
 (.seq
  (.ops [
    ⟨(some 2), .op (.boxL 2), [.r 0], none⟩,
    ⟨(some 4), .op (.mv), [.k (.p (.int .i64 0))], none⟩,
    ⟨(some 5), .op (.mv), [.k (.p (.bool false))], none⟩] (some [1, 2]))
  (.seq
   (.ops [
     ⟨(some 6), .op (.fa 0), [.r 2], none⟩,
     ⟨(some 7), .op (.ld none), [.r 6], none⟩,
     ⟨(some 8), .op (.mv), [.r 1], none⟩,
     ⟨(some 9), .call 168, [.r 7, .r 8, .k (.p (.fn 169 [] []))], none⟩,
     ⟨(some 10), .op (.ext 0), [.r 9], none⟩,
     ⟨(some 11), .op (.ext 1), [.r 9], none⟩,
     ⟨(some 4), .op (.mv), [.r 10], none⟩,
     ⟨(some 5), .op (.mv), [.r 11], none⟩] (some [4, 5]))
   .ret))⟩
theorem tr_108 : trFn Go.Proofs.Tryz.prog h_108 Go.Proofs.Tryz.f108 = some ir_108 := by kernel_rfl
theorem walk_108 {args : List RV} {S : Mem} {Q : RV → Mem → Prop} (hS : S.loc = []) (ha : args.length ≤ 12) (h : fnF false Go.Proofs.Tryz.prog ir_108 args S Q) : SC Go.Proofs.Tryz.prog 108 args S Q := SC.walk mix Go.Proofs.Tryz.func108 tr_108 hS ha h
/- gatewarden/portal.planOf -/
def h_110 : FHint := hn [] [] [] [(0, [1, 2, 4]), (1, [2, 4, 6, 7]), (2, [2, 4, 6, 16]), (3, [4, 5]), (4, [4, 5])] []
def ir_110 : IFun := ⟨23, [.c 4 (some 8), .t 5],
 (.seq
  (.ops [
    ⟨(some 2), .op (.boxL 2), [.r 0], none⟩,
    ⟨(some 4), .op (.allocL 4 [(.p (.str [])), (.p (.str [])), (.p (.int .i64 0)), (.p (.int .i64 0)), (.nsl true), (.p (.int .i64 0)), (.p (.int .i64 0)), (.p (.bool false))]), [], none⟩,
    ⟨(some 5), .op (.mv), [.k (.p (.bool false))], none⟩] (some [1, 2, 4]))
  (.seq
   (.ops [
     ⟨(some 9), .op (.fa 1), [.r 2], none⟩,
     ⟨(some 10), .op (.ld none), [.r 9], none⟩,
     ⟨(some 11), .op (.mv), [.r 1], none⟩,
     ⟨(some 12), .call 170, [.r 10, .r 11, .k (.p (.fn 171 [] []))], none⟩,
     ⟨(some 8), .op (.mv), [.r 12], none⟩,
     ⟨(some 13), .op (.ext 0), [.r 8], none⟩,
     ⟨(some 14), .op (.ext 1), [.r 8], none⟩,
     ⟨(some 6), .op (.mv), [.r 13], none⟩,
     ⟨(some 7), .op (.mv), [.r 14], none⟩] (some [2, 4, 6, 7]))
   (.seq
    (.seq
     (.ops [
       ⟨(some 15), .op (.mv), [.r 7], none⟩,
       ⟨(some 16), .op (.un .not), [.r 15], none⟩] (some [2, 4, 6, 16]))
     (.cond (.r 16)
      (.seq
       (.ops [
         ⟨(some 17), .op (.build [(.p (.str [])), (.p (.str [])), (.p (.int .i64 0)), (.p (.int .i64 0)), (.nsl true), (.p (.int .i64 0)), (.p (.int .i64 0)), (.p (.bool false))] [(0, 1), (1, 1), (2, 1), (3, 1), (4, 1), (5, 1), (6, 1), (7, 1)] []), [], none⟩,
         ⟨none, .op (.st 8), [.r 4, .r 17], none⟩,
         ⟨(some 5), .op (.mv), [.k (.p (.bool false))], none⟩] (some [4, 5]))
       .ret)
      .skip))
    (.seq
     (.ops [
       ⟨(some 18), .op (.fa 1), [.r 2], none⟩,
       ⟨(some 19), .op (.ld none), [.r 18], none⟩,
       ⟨(some 20), .op (.mv), [.r 6], none⟩,
       ⟨(some 21), .op (.ia 8), [.r 19, .r 20], none⟩,
       ⟨(some 22), .op (.ld (some 8)), [.r 21], none⟩,
       ⟨none, .op (.st 8), [.r 4, .r 22], none⟩,
       ⟨(some 5), .op (.mv), [.k (.p (.bool true))], none⟩] (some [4, 5]))
     .ret))))⟩
theorem tr_110 : trFn Go.Proofs.Tryz.prog h_110 Go.Proofs.Tryz.f110 = some ir_110 := by kernel_rfl
theorem walk_110 {args : List RV} {S : Mem} {Q : RV → Mem → Prop} (hS : S.loc = []) (ha : args.length ≤ 23) (h : fnF false Go.Proofs.Tryz.prog ir_110 args S Q) : SC Go.Proofs.Tryz.prog 110 args S Q := SC.walk mix Go.Proofs.Tryz.func110 tr_110 hS ha h
/- gatewarden/portal.price -/
def h_109 : FHint := hn [] [] [] [(0, [1, 2]), (1, [2, 5]), (2, [2, 5, 6]), (3, [2, 5, 6, 16, 17, 18]), (4, [2, 5, 6, 16, 17, 18, 19]), (5, [2, 5, 6, 7, 8, 16, 17, 18]), (6, [2, 5, 6, 7, 8, 9, 16, 17, 18]), (7, [2, 5, 6, 7, 8, 9, 16, 17, 18, 29]), (8, [2, 5, 6, 8, 9, 16, 17, 18]), (9, [2, 5, 6, 16, 17, 18]), (10, [2, 5, 6, 16, 17, 18]), (11, [4])] [(4, [2, 5, 6, 16, 17, 18])]
def ir_109_l0 : IR :=
 (.seq
  (.ops [
    ⟨(some 19), .op (.bin .lss .num), [.r 18, .r 17], none⟩] (some [2, 5, 6, 16, 17, 18, 19]))
  (.seq
   (.cond (.r 19)
    .skip
    (.exit 0))
   (.seq
    (.block 1
     (.seq
      (.ops [
        ⟨(some 20), .op (.mv), [.r 18], none⟩,
        ⟨(some 21), .op (.ia 2), [.r 16, .r 18], none⟩,
        ⟨(some 22), .op (.ld (some 2)), [.r 21], none⟩,
        ⟨(some 8), .op (.allocL 8 [(.p (.int .i64 0)), (.p (.int .i64 0))]), [], none⟩,
        ⟨(some 7), .op (.mv), [.r 20], none⟩,
        ⟨none, .op (.st 2), [.r 8, .r 22], none⟩] (some [2, 5, 6, 7, 8, 16, 17, 18]))
      (.seq
       (.ops [
         ⟨(some 23), .op (.mv), [.r 5], none⟩,
         ⟨(some 9), .op (.mv), [.r 23], none⟩] (some [2, 5, 6, 7, 8, 9, 16, 17, 18]))
       (.seq
        (.seq
         (.ops [
           ⟨(some 24), .op (.mv), [.r 7], none⟩,
           ⟨(some 25), .op (.bin .add .num), [.r 24, .k (.p (.int .i64 1))], none⟩,
           ⟨(some 26), .op (.fa 4), [.r 2], none⟩,
           ⟨(some 27), .op (.ld none), [.r 26], none⟩,
           ⟨(some 28), .op (.lenl), [.r 27], none⟩,
           ⟨(some 29), .op (.bin .lss .num), [.r 25, .r 28], none⟩] (some [2, 5, 6, 7, 8, 9, 16, 17, 18, 29]))
         (.cond (.r 29)
          (.ops [
            ⟨(some 30), .op (.mv), [.r 5], none⟩,
            ⟨(some 31), .op (.fa 4), [.r 2], none⟩,
            ⟨(some 32), .op (.ld none), [.r 31], none⟩,
            ⟨(some 33), .op (.mv), [.r 7], none⟩,
            ⟨(some 34), .op (.bin .add .num), [.r 33, .k (.p (.int .i64 1))], none⟩,
            ⟨(some 35), .op (.ia 2), [.r 32, .r 34], none⟩,
            ⟨(some 36), .op (.fa 0), [.r 35], none⟩,
            ⟨(some 37), .op (.ld none), [.r 36], none⟩,
            ⟨(some 38), .op (.bin .sub .num), [.r 37, .k (.p (.int .i64 1))], none⟩,
            ⟨(some 39), .op (.x (.mnx false)), [.r 30, .r 38], none⟩,
            ⟨(some 9), .op (.mv), [.r 39], none⟩] (some [2, 5, 6, 8, 9, 16, 17, 18]))
          .skip))
        (.ops [
          ⟨(some 40), .op (.mv), [.r 6], none⟩,
          ⟨(some 41), .op (.mv), [.r 9], none⟩,
          ⟨(some 42), .op (.fa 0), [.r 8], none⟩,
          ⟨(some 43), .op (.ld none), [.r 42], none⟩,
          ⟨(some 44), .op (.bin .sub .num), [.r 41, .r 43], none⟩,
          ⟨(some 45), .op (.bin .add .num), [.r 44, .k (.p (.int .i64 1))], none⟩,
          ⟨(some 46), .op (.x (.mnx true)), [.k (.p (.int .i64 0)), .r 45], none⟩,
          ⟨(some 47), .op (.fa 1), [.r 8], none⟩,
          ⟨(some 48), .op (.ld none), [.r 47], none⟩,
          ⟨(some 49), .op (.bin .mul .num), [.r 46, .r 48], none⟩,
          ⟨(some 50), .op (.bin .add .num), [.r 40, .r 49], none⟩,
          ⟨(some 6), .op (.mv), [.r 50], none⟩] (some [2, 5, 6, 16, 17, 18]))))))
    (.ops [
      ⟨(some 51), .op (.bin .add .num), [.r 18, .k (.p (.int .i64 1))], none⟩,
      ⟨(some 18), .op (.mv), [.r 51], none⟩] (some [2, 5, 6, 16, 17, 18])))))
def ir_109 : IFun := ⟨54, [.t 4],
 (.seq
  (.ops [
    ⟨(some 2), .op (.boxL 2), [.r 0], none⟩,
    ⟨(some 4), .op (.mv), [.k (.p (.int .i64 0))], none⟩] (some [1, 2]))
  (.seq
   (.ops [
     ⟨(some 10), .op (.mv), [.r 1], none⟩,
     ⟨(some 11), .op (.fa 3), [.r 2], none⟩,
     ⟨(some 12), .op (.ld none), [.r 11], none⟩,
     ⟨(some 13), .op (.bin .sub .num), [.r 10, .r 12], none⟩,
     ⟨(some 14), .op (.x (.mnx true)), [.k (.p (.int .i64 0)), .r 13], none⟩,
     ⟨(some 5), .op (.mv), [.r 14], none⟩] (some [2, 5]))
   (.seq
    (.ops [
      ⟨(some 6), .op (.mv), [.k (.p (.int .i64 0))], none⟩] (some [2, 5, 6]))
    (.seq
     (.seq
      (.ops [
        ⟨(some 15), .op (.fa 4), [.r 2], none⟩,
        ⟨(some 16), .op (.ld none), [.r 15], none⟩,
        ⟨(some 17), .op (.lenl), [.r 16], none⟩,
        ⟨(some 18), .op (.mv), [.k (.p (.int .i64 0))], none⟩] (some [2, 5, 6, 16, 17, 18]))
      (.block 0
       (.loop (some [2, 5, 6, 16, 17, 18]) ir_109_l0)))
     (.seq
      (.ops [
        ⟨(some 52), .op (.mv), [.r 6], none⟩,
        ⟨(some 53), .op (.bin .quo .num), [.r 52, .k (.p (.int .i64 1000))], none⟩,
        ⟨(some 4), .op (.mv), [.r 53], none⟩] (some [4]))
      .ret)))))⟩
theorem tr_109 : trFn Go.Proofs.Tryz.prog h_109 Go.Proofs.Tryz.f109 = some ir_109 := by kernel_rfl
theorem walk_109 {args : List RV} {S : Mem} {Q : RV → Mem → Prop} (hS : S.loc = []) (ha : args.length ≤ 54) (h : fnF false Go.Proofs.Tryz.prog ir_109 args S Q) : SC Go.Proofs.Tryz.prog 109 args S Q := SC.walk mix Go.Proofs.Tryz.func109 tr_109 hS ha h
/- gatewarden/portal.Price -/
def h_50 : FHint := hn [] [] [] [(0, [1, 2, 3]), (1, [1, 2, 3, 8]), (2, [1, 2, 3, 8, 14]), (3, [6, 7]), (4, [2, 9, 10]), (5, [2, 9, 23]), (6, [6, 7]), (7, [2, 9, 25]), (8, [6, 7]), (9, [6, 7])] []
def ir_50 : IFun := ⟨29, [.t 6, .t 7],
 (.seq
  (.ops [
    ⟨(some 3), .op (.boxL 3), [.r 0], none⟩,
    ⟨(some 6), .op (.mv), [.k (.p (.int .i64 0))], none⟩,
    ⟨(some 7), .op (.mv), [.k (.p (.int .i64 0))], none⟩] (some [1, 2, 3]))
  (.seq
   (.seq
    (.ops [
      ⟨(some 11), .op (.ld (some 2)), [.r 3], none⟩,
      ⟨(some 12), .callP 107, [.r 11], none⟩,
      ⟨(some 8), .op (.mv), [.r 12], none⟩] (some [1, 2, 3, 8]))
    (.seq
     (.ops [
       ⟨(some 13), .op (.mv), [.r 8], none⟩,
       ⟨(some 14), .op (.bin .neq .num), [.r 13, .k (.p (.int .i64 0))], none⟩] (some [1, 2, 3, 8, 14]))
     (.cond (.r 14)
      (.seq
       (.ops [
         ⟨(some 15), .op (.mv), [.r 8], none⟩,
         ⟨(some 6), .op (.mv), [.k (.p (.int .i64 0))], none⟩,
         ⟨(some 7), .op (.mv), [.r 15], none⟩] (some [6, 7]))
       .ret)
      .skip)))
   (.seq
    (.ops [
      ⟨(some 17), .op (.ld (some 2)), [.r 3], none⟩,
      ⟨(some 18), .op (.mv), [.r 1], none⟩,
      ⟨(some 19), .callP 110, [.r 17, .r 18], none⟩,
      ⟨(some 16), .op (.mv), [.r 19], none⟩,
      ⟨(some 20), .op (.ext 0), [.r 16], none⟩,
      ⟨(some 21), .op (.ext 1), [.r 16], none⟩,
      ⟨(some 9), .op (.allocL 9 [(.p (.str [])), (.p (.str [])), (.p (.int .i64 0)), (.p (.int .i64 0)), (.nsl true), (.p (.int .i64 0)), (.p (.int .i64 0)), (.p (.bool false))]), [], none⟩,
      ⟨none, .op (.st 8), [.r 9, .r 20], none⟩,
      ⟨(some 10), .op (.mv), [.r 21], none⟩] (some [2, 9, 10]))
    (.seq
     (.seq
      (.ops [
        ⟨(some 22), .op (.mv), [.r 10], none⟩,
        ⟨(some 23), .op (.un .not), [.r 22], none⟩] (some [2, 9, 23]))
      (.cond (.r 23)
       (.seq
        (.ops [
          ⟨(some 6), .op (.mv), [.k (.p (.int .i64 0))], none⟩,
          ⟨(some 7), .op (.mv), [.k (.p (.int .i64 8))], none⟩] (some [6, 7]))
        .ret)
       .skip))
     (.seq
      (.seq
       (.ops [
         ⟨(some 24), .op (.mv), [.r 2], none⟩,
         ⟨(some 25), .callP 65, [.r 24, .k (.p (.int .i64 0)), .k (.p (.int .i64 1000000000000))], none⟩] (some [2, 9, 25]))
       (.cond (.r 25)
        (.seq
         (.ops [
           ⟨(some 6), .op (.mv), [.k (.p (.int .i64 0))], none⟩,
           ⟨(some 7), .op (.mv), [.k (.p (.int .i64 1))], none⟩] (some [6, 7]))
         .ret)
        .skip))
      (.seq
       (.ops [
         ⟨(some 26), .op (.ld (some 8)), [.r 9], none⟩,
         ⟨(some 27), .op (.mv), [.r 2], none⟩,
         ⟨(some 28), .callP 109, [.r 26, .r 27], none⟩,
         ⟨(some 6), .op (.mv), [.r 28], none⟩,
         ⟨(some 7), .op (.mv), [.k (.p (.int .i64 0))], none⟩] (some [6, 7]))
       .ret))))))⟩
theorem tr_50 : trFn Go.Proofs.Tryz.prog h_50 Go.Proofs.Tryz.f50 = some ir_50 := by kernel_rfl
theorem walk_50 {args : List RV} {S : Mem} {Q : RV → Mem → Prop} (hS : S.loc = []) (ha : args.length ≤ 29) (h : fnF false Go.Proofs.Tryz.prog ir_50 args S Q) : SC Go.Proofs.Tryz.prog 50 args S Q := SC.walk mix Go.Proofs.Tryz.func50 tr_50 hS ha h
/- gatewarden/portal.Cheapest -/
def h_49 : FHint := hn [] [] [] [(0, [1, 2, 3]), (1, [1, 2, 3, 9]), (2, [1, 2, 3, 9, 20]), (3, [6, 7, 8]), (4, [1, 2, 3, 11]), (5, [1, 2, 3, 29]), (6, [6, 7, 8]), (7, [1, 2, 3, 31]), (8, [6, 7, 8]), (9, [1, 2, 3, 12, 13]), (10, [1, 2, 12, 13, 33, 34, 35]), (11, [1, 2, 12, 13, 33, 34, 35, 36]), (12, [1, 2, 12, 13, 15, 33, 34, 35]), (13, [1, 2, 12, 13, 15, 33, 34, 35, 53]), (14, [1, 2, 12, 13, 15, 16, 33, 34, 35]), (15, [1, 2, 12, 13, 15, 16, 33, 34, 35, 66]), (16, [1, 2, 12, 13, 33, 34, 35]), (17, [1, 2, 12, 13, 33, 34, 35]), (18, [12, 13, 72]), (19, [6, 7, 8]), (20, [6, 7, 8])] [(11, [1, 2, 12, 13, 33, 34, 35])]
def ir_49_l0 : IR :=
 (.seq
  (.ops [
    ⟨(some 36), .op (.bin .lss .num), [.r 35, .r 34], none⟩] (some [1, 2, 12, 13, 33, 34, 35, 36]))
  (.seq
   (.cond (.r 36)
    .skip
    (.exit 0))
   (.seq
    (.block 1
     (.seq
      (.ops [
        ⟨(some 37), .op (.ia 8), [.r 33, .r 35], none⟩,
        ⟨(some 38), .op (.ld (some 8)), [.r 37], none⟩,
        ⟨(some 15), .op (.allocL 15 [(.p (.str [])), (.p (.str [])), (.p (.int .i64 0)), (.p (.int .i64 0)), (.nsl true), (.p (.int .i64 0)), (.p (.int .i64 0)), (.p (.bool false))]), [], none⟩,
        ⟨none, .op (.st 8), [.r 15, .r 38], none⟩] (some [1, 2, 12, 13, 15, 33, 34, 35]))
      (.seq
       (.seq
        (.ops [
          ⟨(some 39), .op (.fa 1), [.r 15], none⟩,
          ⟨(some 40), .op (.ld none), [.r 39], none⟩,
          ⟨(some 41), .op (.mv), [.r 1], none⟩,
          ⟨(some 42), .op (.bin .neq .num), [.r 40, .r 41], none⟩,
          ⟨(some 43), .op (.mv), [.r 42], none⟩,
          ⟨(some 44), .op (.fa 5), [.r 15], (some (43, false))⟩,
          ⟨(some 45), .op (.ld none), [.r 44], (some (43, false))⟩,
          ⟨(some 46), .op (.bin .geq .num), [.r 45, .k (.p (.int .i64 0))], (some (43, false))⟩,
          ⟨(some 47), .op (.mv), [.r 46], (some (43, false))⟩,
          ⟨(some 48), .op (.fa 5), [.r 15], (some (47, true))⟩,
          ⟨(some 49), .op (.ld none), [.r 48], (some (47, true))⟩,
          ⟨(some 50), .op (.mv), [.r 2], (some (47, true))⟩,
          ⟨(some 51), .op (.bin .lss .num), [.r 49, .r 50], (some (47, true))⟩,
          ⟨(some 52), .op (.pick), [.r 47, .r 51, .k (.p (.bool false))], (some (43, false))⟩,
          ⟨(some 53), .op (.pick), [.r 43, .k (.p (.bool true)), .r 52], none⟩] (some [1, 2, 12, 13, 15, 33, 34, 35, 53]))
        (.cond (.r 53)
         (.exit 1)
         .skip))
       (.seq
        (.opsD [
          ⟨(some 54), .op (.fa 2), [.r 15], none⟩,
          ⟨(some 55), .op (.ld none), [.r 54], none⟩,
          ⟨(some 56), .op (.ld (some 8)), [.r 15], none⟩,
          ⟨(some 57), .op (.mv), [.r 2], none⟩,
          ⟨(some 58), .callP 109, [.r 56, .r 57], none⟩,
          ⟨(some 59), .op (.bin .add .num), [.r 55, .r 58], none⟩,
          ⟨(some 16), .op (.mv), [.r 59], none⟩] [] (some [1, 2, 12, 13, 15, 16, 33, 34, 35]))
        (.seq
         (.ops [
           ⟨(some 60), .op (.mv), [.r 12], none⟩,
           ⟨(some 61), .op (.bin .eql .num), [.r 60, .k (.p (.str []))], none⟩,
           ⟨(some 62), .op (.mv), [.r 61], none⟩,
           ⟨(some 63), .op (.mv), [.r 16], (some (62, false))⟩,
           ⟨(some 64), .op (.mv), [.r 13], (some (62, false))⟩,
           ⟨(some 65), .op (.bin .lss .num), [.r 63, .r 64], (some (62, false))⟩,
           ⟨(some 66), .op (.pick), [.r 62, .k (.p (.bool true)), .r 65], none⟩] (some [1, 2, 12, 13, 15, 16, 33, 34, 35, 66]))
         (.cond (.r 66)
          (.ops [
            ⟨(some 67), .op (.fa 0), [.r 15], none⟩,
            ⟨(some 68), .op (.ld none), [.r 67], none⟩,
            ⟨(some 69), .op (.mv), [.r 16], none⟩,
            ⟨(some 12), .op (.mv), [.r 68], none⟩,
            ⟨(some 13), .op (.mv), [.r 69], none⟩] (some [1, 2, 12, 13, 33, 34, 35]))
          .skip))))))
    (.ops [
      ⟨(some 70), .op (.bin .add .num), [.r 35, .k (.p (.int .i64 1))], none⟩,
      ⟨(some 35), .op (.mv), [.r 70], none⟩] (some [1, 2, 12, 13, 33, 34, 35])))))
def ir_49 : IFun := ⟨75, [.t 6, .t 7, .t 8],
 (.seq
  (.ops [
    ⟨(some 3), .op (.boxL 3), [.r 0], none⟩,
    ⟨(some 6), .op (.mv), [.k (.p (.str []))], none⟩,
    ⟨(some 7), .op (.mv), [.k (.p (.int .i64 0))], none⟩,
    ⟨(some 8), .op (.mv), [.k (.p (.int .i64 0))], none⟩] (some [1, 2, 3]))
  (.seq
   (.seq
    (.ops [
      ⟨(some 17), .op (.ld (some 2)), [.r 3], none⟩,
      ⟨(some 18), .callP 107, [.r 17], none⟩,
      ⟨(some 9), .op (.mv), [.r 18], none⟩] (some [1, 2, 3, 9]))
    (.seq
     (.ops [
       ⟨(some 19), .op (.mv), [.r 9], none⟩,
       ⟨(some 20), .op (.bin .neq .num), [.r 19, .k (.p (.int .i64 0))], none⟩] (some [1, 2, 3, 9, 20]))
     (.cond (.r 20)
      (.seq
       (.ops [
         ⟨(some 21), .op (.mv), [.r 9], none⟩,
         ⟨(some 6), .op (.mv), [.k (.p (.str []))], none⟩,
         ⟨(some 7), .op (.mv), [.k (.p (.int .i64 0))], none⟩,
         ⟨(some 8), .op (.mv), [.r 21], none⟩] (some [6, 7, 8]))
       .ret)
      .skip)))
   (.seq
    (.seq
     (.ops [
       ⟨(some 23), .op (.ld (some 2)), [.r 3], none⟩,
       ⟨(some 24), .op (.mv), [.r 1], none⟩,
       ⟨(some 25), .callP 108, [.r 23, .r 24], none⟩,
       ⟨(some 22), .op (.mv), [.r 25], none⟩,
       ⟨(some 26), .op (.ext 0), [.r 22], none⟩,
       ⟨(some 27), .op (.ext 1), [.r 22], none⟩,
       ⟨(some 10), .op (.mv), [.r 26], none⟩,
       ⟨(some 11), .op (.mv), [.r 27], none⟩] (some [1, 2, 3, 11]))
     (.seq
      (.ops [
        ⟨(some 28), .op (.mv), [.r 11], none⟩,
        ⟨(some 29), .op (.un .not), [.r 28], none⟩] (some [1, 2, 3, 29]))
      (.cond (.r 29)
       (.seq
        (.ops [
          ⟨(some 6), .op (.mv), [.k (.p (.str []))], none⟩,
          ⟨(some 7), .op (.mv), [.k (.p (.int .i64 0))], none⟩,
          ⟨(some 8), .op (.mv), [.k (.p (.int .i64 8))], none⟩] (some [6, 7, 8]))
        .ret)
       .skip)))
    (.seq
     (.seq
      (.ops [
        ⟨(some 30), .op (.mv), [.r 2], none⟩,
        ⟨(some 31), .callP 65, [.r 30, .k (.p (.int .i64 0)), .k (.p (.int .i64 1000000000000))], none⟩] (some [1, 2, 3, 31]))
      (.cond (.r 31)
       (.seq
        (.ops [
          ⟨(some 6), .op (.mv), [.k (.p (.str []))], none⟩,
          ⟨(some 7), .op (.mv), [.k (.p (.int .i64 0))], none⟩,
          ⟨(some 8), .op (.mv), [.k (.p (.int .i64 1))], none⟩] (some [6, 7, 8]))
        .ret)
       .skip))
     (.seq
      (.ops [
        ⟨(some 12), .op (.mv), [.k (.p (.str []))], none⟩,
        ⟨(some 13), .op (.mv), [.k (.p (.int .i64 0))], none⟩] (some [1, 2, 3, 12, 13]))
      (.seq
       (.seq
        (.ops [
          ⟨(some 32), .op (.fa 1), [.r 3], none⟩,
          ⟨(some 33), .op (.ld none), [.r 32], none⟩,
          ⟨(some 34), .op (.lenl), [.r 33], none⟩,
          ⟨(some 35), .op (.mv), [.k (.p (.int .i64 0))], none⟩] (some [1, 2, 12, 13, 33, 34, 35]))
        (.block 0
         (.loop (some [1, 2, 12, 13, 33, 34, 35]) ir_49_l0)))
       (.seq
        (.seq
         (.ops [
           ⟨(some 71), .op (.mv), [.r 12], none⟩,
           ⟨(some 72), .op (.bin .eql .num), [.r 71, .k (.p (.str []))], none⟩] (some [12, 13, 72]))
         (.cond (.r 72)
          (.seq
           (.ops [
             ⟨(some 6), .op (.mv), [.k (.p (.str []))], none⟩,
             ⟨(some 7), .op (.mv), [.k (.p (.int .i64 0))], none⟩,
             ⟨(some 8), .op (.mv), [.k (.p (.int .i64 8))], none⟩] (some [6, 7, 8]))
           .ret)
          .skip))
        (.seq
         (.ops [
           ⟨(some 73), .op (.mv), [.r 12], none⟩,
           ⟨(some 74), .op (.mv), [.r 13], none⟩,
           ⟨(some 6), .op (.mv), [.r 73], none⟩,
           ⟨(some 7), .op (.mv), [.r 74], none⟩,
           ⟨(some 8), .op (.mv), [.k (.p (.int .i64 0))], none⟩] (some [6, 7, 8]))
         .ret))))))))⟩
theorem tr_49 : trFn Go.Proofs.Tryz.prog h_49 Go.Proofs.Tryz.f49 = some ir_49 := by kernel_rfl
theorem walk_49 {args : List RV} {S : Mem} {Q : RV → Mem → Prop} (hS : S.loc = []) (ha : args.length ≤ 75) (h : fnF false Go.Proofs.Tryz.prog ir_49 args S Q) : SC Go.Proofs.Tryz.prog 49 args S Q := SC.walk mix Go.Proofs.Tryz.func49 tr_49 hS ha h
/- slices.BinarySearchFunc[[]gatewarden/api.Product,gatewarden/api.Product,string] -/
def h_168 : FHint := hn [] [] [] [(0, [0, 1, 2]), (1, [0, 1, 2, 8]), (2, [0, 1, 2, 8, 9, 10]), (3, [0, 1, 2, 8, 9, 10, 17]), (4, [0, 1, 2, 8, 9, 10, 11]), (5, [0, 1, 2, 8, 9, 10, 11, 31]), (7, [0, 1, 2, 8, 9, 10]), (6, [0, 1, 2, 8, 9, 10]), (8, [6, 7])] [(3, [0, 1, 2, 8, 9, 10])]
def ir_168_l0 : IR :=
 (.seq
  (.seq
   (.ops [
     ⟨(some 15), .op (.mv), [.r 9], none⟩,
     ⟨(some 16), .op (.mv), [.r 10], none⟩,
     ⟨(some 17), .op (.bin .lss .num), [.r 15, .r 16], none⟩] (some [0, 1, 2, 8, 9, 10, 17]))
   (.cond (.r 17)
    .skip
    (.exit 0)))
  (.block 1
   (.seq
    (.ops [
      ⟨(some 18), .op (.mv), [.r 9], none⟩,
      ⟨(some 19), .op (.mv), [.r 10], none⟩,
      ⟨(some 20), .op (.bin .add .num), [.r 18, .r 19], none⟩,
      ⟨(some 21), .op (.cint .u64), [.r 20], none⟩,
      ⟨(some 22), .op (.bin .shr .num), [.r 21, .k (.p (.int .u64 1))], none⟩,
      ⟨(some 23), .op (.cint .i64), [.r 22], none⟩,
      ⟨(some 11), .op (.mv), [.r 23], none⟩] (some [0, 1, 2, 8, 9, 10, 11]))
    (.seq
     (.ops [
       ⟨(some 24), .op (.mv), [.r 2], none⟩,
       ⟨(some 25), .op (.mv), [.r 0], none⟩,
       ⟨(some 26), .op (.mv), [.r 11], none⟩,
       ⟨(some 27), .op (.ia 2), [.r 25, .r 26], none⟩,
       ⟨(some 28), .op (.ld (some 2)), [.r 27], none⟩,
       ⟨(some 29), .op (.mv), [.r 1], none⟩,
       ⟨(some 30), .callv, [.r 24, .r 28, .r 29], none⟩,
       ⟨(some 31), .op (.bin .lss .num), [.r 30, .k (.p (.int .i64 0))], none⟩] (some [0, 1, 2, 8, 9, 10, 11, 31]))
     (.cond (.r 31)
      (.ops [
        ⟨(some 32), .op (.mv), [.r 11], none⟩,
        ⟨(some 33), .op (.bin .add .num), [.r 32, .k (.p (.int .i64 1))], none⟩,
        ⟨(some 9), .op (.mv), [.r 33], none⟩] (some [0, 1, 2, 8, 9, 10]))
      (.ops [
        ⟨(some 34), .op (.mv), [.r 11], none⟩,
        ⟨(some 10), .op (.mv), [.r 34], none⟩] (some [0, 1, 2, 8, 9, 10])))))))
def ir_168 : IFun := ⟨49, [.t 6, .t 7],
 (.seq
  (.ops [
    ⟨(some 6), .op (.mv), [.k (.p (.int .i64 0))], none⟩,
    ⟨(some 7), .op (.mv), [.k (.p (.bool false))], none⟩] (some [0, 1, 2]))
  (.seq
   (.ops [
     ⟨(some 12), .op (.mv), [.r 0], none⟩,
     ⟨(some 13), .op (.lenl), [.r 12], none⟩,
     ⟨(some 8), .op (.mv), [.r 13], none⟩] (some [0, 1, 2, 8]))
   (.seq
    (.ops [
      ⟨(some 14), .op (.mv), [.r 8], none⟩,
      ⟨(some 9), .op (.mv), [.k (.p (.int .i64 0))], none⟩,
      ⟨(some 10), .op (.mv), [.r 14], none⟩] (some [0, 1, 2, 8, 9, 10]))
    (.seq
     (.block 0
      (.loop (some [0, 1, 2, 8, 9, 10]) ir_168_l0))
     (.seq
      (.ops [
        ⟨(some 35), .op (.mv), [.r 9], none⟩,
        ⟨(some 36), .op (.mv), [.r 9], none⟩,
        ⟨(some 37), .op (.mv), [.r 8], none⟩,
        ⟨(some 38), .op (.bin .lss .num), [.r 36, .r 37], none⟩,
        ⟨(some 39), .op (.mv), [.r 38], none⟩,
        ⟨(some 40), .op (.mv), [.r 2], (some (39, true))⟩,
        ⟨(some 41), .op (.mv), [.r 0], (some (39, true))⟩,
        ⟨(some 42), .op (.mv), [.r 9], (some (39, true))⟩,
        ⟨(some 43), .op (.ia 2), [.r 41, .r 42], (some (39, true))⟩,
        ⟨(some 44), .op (.ld (some 2)), [.r 43], (some (39, true))⟩,
        ⟨(some 45), .op (.mv), [.r 1], (some (39, true))⟩,
        ⟨(some 46), .callv, [.r 40, .r 44, .r 45], (some (39, true))⟩,
        ⟨(some 47), .op (.bin .eql .num), [.r 46, .k (.p (.int .i64 0))], (some (39, true))⟩,
        ⟨(some 48), .op (.pick), [.r 39, .r 47, .k (.p (.bool false))], none⟩,
        ⟨(some 6), .op (.mv), [.r 35], none⟩,
        ⟨(some 7), .op (.mv), [.r 48], none⟩] (some [6, 7]))
      .ret)))))⟩
theorem tr_168 : trFn Go.Proofs.Tryz.prog h_168 Go.Proofs.Tryz.f168 = some ir_168 := by kernel_rfl
theorem walk_168 {args : List RV} {S : Mem} {Q : RV → Mem → Prop} (hS : S.loc = []) (ha : args.length ≤ 49) (h : fnF false Go.Proofs.Tryz.prog ir_168 args S Q) : SC Go.Proofs.Tryz.prog 168 args S Q := SC.walk mix Go.Proofs.Tryz.func168 tr_168 hS ha h
/- slices.BinarySearchFunc[[]gatewarden/api.Plan,gatewarden/api.Plan,string] -/
def h_170 : FHint := hn [] [] [] [(0, [0, 1, 2]), (1, [0, 1, 2, 8]), (2, [0, 1, 2, 8, 9, 10]), (3, [0, 1, 2, 8, 9, 10, 17]), (4, [0, 1, 2, 8, 9, 10, 11]), (5, [0, 1, 2, 8, 9, 10, 11, 31]), (7, [0, 1, 2, 8, 9, 10]), (6, [0, 1, 2, 8, 9, 10]), (8, [6, 7])] [(3, [0, 1, 2, 8, 9, 10])]
def ir_170_l0 : IR :=
 (.seq
  (.seq
   (.ops [
     ⟨(some 15), .op (.mv), [.r 9], none⟩,
     ⟨(some 16), .op (.mv), [.r 10], none⟩,
     ⟨(some 17), .op (.bin .lss .num), [.r 15, .r 16], none⟩] (some [0, 1, 2, 8, 9, 10, 17]))
   (.cond (.r 17)
    .skip
    (.exit 0)))
  (.block 1
   (.seq
    (.ops [
      ⟨(some 18), .op (.mv), [.r 9], none⟩,
      ⟨(some 19), .op (.mv), [.r 10], none⟩,
      ⟨(some 20), .op (.bin .add .num), [.r 18, .r 19], none⟩,
      ⟨(some 21), .op (.cint .u64), [.r 20], none⟩,
      ⟨(some 22), .op (.bin .shr .num), [.r 21, .k (.p (.int .u64 1))], none⟩,
      ⟨(some 23), .op (.cint .i64), [.r 22], none⟩,
      ⟨(some 11), .op (.mv), [.r 23], none⟩] (some [0, 1, 2, 8, 9, 10, 11]))
    (.seq
     (.ops [
       ⟨(some 24), .op (.mv), [.r 2], none⟩,
       ⟨(some 25), .op (.mv), [.r 0], none⟩,
       ⟨(some 26), .op (.mv), [.r 11], none⟩,
       ⟨(some 27), .op (.ia 8), [.r 25, .r 26], none⟩,
       ⟨(some 28), .op (.ld (some 8)), [.r 27], none⟩,
       ⟨(some 29), .op (.mv), [.r 1], none⟩,
       ⟨(some 30), .callv, [.r 24, .r 28, .r 29], none⟩,
       ⟨(some 31), .op (.bin .lss .num), [.r 30, .k (.p (.int .i64 0))], none⟩] (some [0, 1, 2, 8, 9, 10, 11, 31]))
     (.cond (.r 31)
      (.ops [
        ⟨(some 32), .op (.mv), [.r 11], none⟩,
        ⟨(some 33), .op (.bin .add .num), [.r 32, .k (.p (.int .i64 1))], none⟩,
        ⟨(some 9), .op (.mv), [.r 33], none⟩] (some [0, 1, 2, 8, 9, 10]))
      (.ops [
        ⟨(some 34), .op (.mv), [.r 11], none⟩,
        ⟨(some 10), .op (.mv), [.r 34], none⟩] (some [0, 1, 2, 8, 9, 10])))))))
def ir_170 : IFun := ⟨49, [.t 6, .t 7],
 (.seq
  (.ops [
    ⟨(some 6), .op (.mv), [.k (.p (.int .i64 0))], none⟩,
    ⟨(some 7), .op (.mv), [.k (.p (.bool false))], none⟩] (some [0, 1, 2]))
  (.seq
   (.ops [
     ⟨(some 12), .op (.mv), [.r 0], none⟩,
     ⟨(some 13), .op (.lenl), [.r 12], none⟩,
     ⟨(some 8), .op (.mv), [.r 13], none⟩] (some [0, 1, 2, 8]))
   (.seq
    (.ops [
      ⟨(some 14), .op (.mv), [.r 8], none⟩,
      ⟨(some 9), .op (.mv), [.k (.p (.int .i64 0))], none⟩,
      ⟨(some 10), .op (.mv), [.r 14], none⟩] (some [0, 1, 2, 8, 9, 10]))
    (.seq
     (.block 0
      (.loop (some [0, 1, 2, 8, 9, 10]) ir_170_l0))
     (.seq
      (.ops [
        ⟨(some 35), .op (.mv), [.r 9], none⟩,
        ⟨(some 36), .op (.mv), [.r 9], none⟩,
        ⟨(some 37), .op (.mv), [.r 8], none⟩,
        ⟨(some 38), .op (.bin .lss .num), [.r 36, .r 37], none⟩,
        ⟨(some 39), .op (.mv), [.r 38], none⟩,
        ⟨(some 40), .op (.mv), [.r 2], (some (39, true))⟩,
        ⟨(some 41), .op (.mv), [.r 0], (some (39, true))⟩,
        ⟨(some 42), .op (.mv), [.r 9], (some (39, true))⟩,
        ⟨(some 43), .op (.ia 8), [.r 41, .r 42], (some (39, true))⟩,
        ⟨(some 44), .op (.ld (some 8)), [.r 43], (some (39, true))⟩,
        ⟨(some 45), .op (.mv), [.r 1], (some (39, true))⟩,
        ⟨(some 46), .callv, [.r 40, .r 44, .r 45], (some (39, true))⟩,
        ⟨(some 47), .op (.bin .eql .num), [.r 46, .k (.p (.int .i64 0))], (some (39, true))⟩,
        ⟨(some 48), .op (.pick), [.r 39, .r 47, .k (.p (.bool false))], none⟩,
        ⟨(some 6), .op (.mv), [.r 35], none⟩,
        ⟨(some 7), .op (.mv), [.r 48], none⟩] (some [6, 7]))
      .ret)))))⟩
theorem tr_170 : trFn Go.Proofs.Tryz.prog h_170 Go.Proofs.Tryz.f170 = some ir_170 := by kernel_rfl
theorem walk_170 {args : List RV} {S : Mem} {Q : RV → Mem → Prop} (hS : S.loc = []) (ha : args.length ≤ 49) (h : fnF false Go.Proofs.Tryz.prog ir_170 args S Q) : SC Go.Proofs.Tryz.prog 170 args S Q := SC.walk mix Go.Proofs.Tryz.func170 tr_170 hS ha h
/- gatewarden/portal.productAt$1 -/
def h_169 : FHint := hn [] [] [] [(0, [1, 2]), (1, [4])] []
def ir_169 : IFun := ⟨9, [.t 4],
 (.seq
  (.ops [
    ⟨(some 2), .op (.boxL 2), [.r 0], none⟩,
    ⟨(some 4), .op (.mv), [.k (.p (.int .i64 0))], none⟩] (some [1, 2]))
  (.seq
   (.ops [
     ⟨(some 5), .op (.fa 0), [.r 2], none⟩,
     ⟨(some 6), .op (.ld none), [.r 5], none⟩,
     ⟨(some 7), .op (.mv), [.r 1], none⟩,
     ⟨(some 8), .callP 158, [.r 6, .r 7], none⟩,
     ⟨(some 4), .op (.mv), [.r 8], none⟩] (some [4]))
   .ret))⟩
theorem tr_169 : trFn Go.Proofs.Tryz.prog h_169 Go.Proofs.Tryz.f169 = some ir_169 := by kernel_rfl
theorem walk_169 {args : List RV} {S : Mem} {Q : RV → Mem → Prop} (hS : S.loc = []) (ha : args.length ≤ 9) (h : fnF false Go.Proofs.Tryz.prog ir_169 args S Q) : SC Go.Proofs.Tryz.prog 169 args S Q := SC.walk mix Go.Proofs.Tryz.func169 tr_169 hS ha h
/- gatewarden/portal.planOf$1 -/
def h_171 : FHint := hn [] [] [] [(0, [1, 2]), (1, [4])] []
def ir_171 : IFun := ⟨9, [.t 4],
 (.seq
  (.ops [
    ⟨(some 2), .op (.boxL 2), [.r 0], none⟩,
    ⟨(some 4), .op (.mv), [.k (.p (.int .i64 0))], none⟩] (some [1, 2]))
  (.seq
   (.ops [
     ⟨(some 5), .op (.fa 0), [.r 2], none⟩,
     ⟨(some 6), .op (.ld none), [.r 5], none⟩,
     ⟨(some 7), .op (.mv), [.r 1], none⟩,
     ⟨(some 8), .callP 158, [.r 6, .r 7], none⟩,
     ⟨(some 4), .op (.mv), [.r 8], none⟩] (some [4]))
   .ret))⟩
theorem tr_171 : trFn Go.Proofs.Tryz.prog h_171 Go.Proofs.Tryz.f171 = some ir_171 := by kernel_rfl
theorem walk_171 {args : List RV} {S : Mem} {Q : RV → Mem → Prop} (hS : S.loc = []) (ha : args.length ≤ 9) (h : fnF false Go.Proofs.Tryz.prog ir_171 args S Q) : SC Go.Proofs.Tryz.prog 171 args S Q := SC.walk mix Go.Proofs.Tryz.func171 tr_171 hS ha h
/- strings.Compare -/
def h_158 : FHint := hn [] [] [] [(0, [0, 1]), (1, [4])] []
def ir_158 : IFun := ⟨8, [.t 4],
 (.seq
  (.ops [
    ⟨(some 4), .op (.mv), [.k (.p (.int .i64 0))], none⟩] (some [0, 1]))
  (.seq
   (.ops [
     ⟨(some 5), .op (.mv), [.r 0], none⟩,
     ⟨(some 6), .op (.mv), [.r 1], none⟩,
     ⟨(some 7), .callP 205, [.r 5, .r 6], none⟩,
     ⟨(some 4), .op (.mv), [.r 7], none⟩] (some [4]))
   .ret))⟩
theorem tr_158 : trFn Go.Proofs.Tryz.prog h_158 Go.Proofs.Tryz.f158 = some ir_158 := by kernel_rfl
theorem walk_158 {args : List RV} {S : Mem} {Q : RV → Mem → Prop} (hS : S.loc = []) (ha : args.length ≤ 8) (h : fnF false Go.Proofs.Tryz.prog ir_158 args S Q) : SC Go.Proofs.Tryz.prog 158 args S Q := SC.walk mix Go.Proofs.Tryz.func158 tr_158 hS ha h
/- internal/bytealg.CompareString -/
def h_205 : FHint := hn [] [] [] [(0, [0, 1]), (1, [4])] []
def ir_205 : IFun := ⟨8, [.t 4],
 (.seq
  (.ops [
    ⟨(some 4), .op (.mv), [.k (.p (.int .i64 0))], none⟩] (some [0, 1]))
  (.seq
   (.ops [
     ⟨(some 5), .op (.mv), [.r 0], none⟩,
     ⟨(some 6), .op (.mv), [.r 1], none⟩,
     ⟨(some 7), .op (.x (.xcmp)), [.r 5, .r 6], none⟩,
     ⟨(some 4), .op (.mv), [.r 7], none⟩] (some [4]))
   .ret))⟩
theorem tr_205 : trFn Go.Proofs.Tryz.prog h_205 Go.Proofs.Tryz.f205 = some ir_205 := by kernel_rfl
theorem walk_205 {args : List RV} {S : Mem} {Q : RV → Mem → Prop} (hS : S.loc = []) (ha : args.length ≤ 8) (h : fnF false Go.Proofs.Tryz.prog ir_205 args S Q) : SC Go.Proofs.Tryz.prog 205 args S Q := SC.walk mix Go.Proofs.Tryz.func205 tr_205 hS ha h
/- gatewarden/gatekeep2.PricesGrow -/
def h_9 : FHint := hn [18] [] [] [(0, [0]), (1, [3]), (2, [3, 4, 5]), (3, [3, 4, 5, 6, 7, 8]), (4, [3, 4, 5, 6, 7, 8, 31, 32, 33]), (5, [3, 4, 5, 6, 7, 8, 31, 32, 33, 34]), (6, [3, 4, 5, 6, 7, 8, 10, 31, 32, 33]), (7, [3, 4, 5, 6, 7, 8, 10, 11, 12, 31, 32, 33]), (8, [3, 4, 5, 6, 7, 8, 10, 11, 12, 13, 14, 31, 32, 33]), (9, [3, 4, 5, 6, 7, 8, 10, 11, 31, 32, 33, 66]), (10, [2]), (11, [3, 4, 5, 6, 7, 8, 10, 11, 15, 31, 32, 33]), (12, [3, 4, 5, 6, 7, 8, 31, 32, 33, 111]), (13, [2]), (14, [3, 4, 5, 6, 7, 8, 31, 32, 33]), (15, [2])] [(5, [3, 4, 5, 6, 7, 8, 31, 32, 33])]
def ir_9_l0 : IR :=
 (.seq
  (.ops [
    ⟨(some 34), .op (.bin .lss .num), [.r 33, .r 32], none⟩] (some [3, 4, 5, 6, 7, 8, 31, 32, 33, 34]))
  (.seq
   (.cond (.r 34)
    .skip
    (.exit 0))
   (.seq
    (.block 1
     (.seq
      (.ops [
        ⟨(some 35), .op (.ia 8), [.r 31, .r 33], none⟩,
        ⟨(some 36), .op (.ld (some 8)), [.r 35], none⟩,
        ⟨(some 10), .op (.allocL 10 [(.p (.str [])), (.p (.str [])), (.p (.int .i64 0)), (.p (.int .i64 0)), (.nsl true), (.p (.int .i64 0)), (.p (.int .i64 0)), (.p (.bool false))]), [], none⟩,
        ⟨none, .op (.st 8), [.r 10, .r 36], none⟩] (some [3, 4, 5, 6, 7, 8, 10, 31, 32, 33]))
      (.seq
       (.ops [
         ⟨(some 38), .op (.ld (some 2)), [.r 4], none⟩,
         ⟨(some 39), .op (.fa 0), [.r 10], none⟩,
         ⟨(some 40), .op (.ld none), [.r 39], none⟩,
         ⟨(some 41), .op (.mv), [.r 5], none⟩,
         ⟨(some 42), .callP 50, [.r 38, .r 40, .r 41], none⟩,
         ⟨(some 37), .op (.mv), [.r 42], none⟩,
         ⟨(some 43), .op (.ext 0), [.r 37], none⟩,
         ⟨(some 44), .op (.ext 1), [.r 37], none⟩,
         ⟨(some 11), .op (.mv), [.r 43], none⟩,
         ⟨(some 12), .op (.mv), [.r 44], none⟩] (some [3, 4, 5, 6, 7, 8, 10, 11, 12, 31, 32, 33]))
       (.seq
        (.opsD [
          ⟨(some 46), .op (.ld (some 2)), [.r 4], none⟩,
          ⟨(some 47), .op (.fa 0), [.r 10], none⟩,
          ⟨(some 48), .op (.ld none), [.r 47], none⟩,
          ⟨(some 49), .op (.mv), [.r 5], none⟩,
          ⟨(some 50), .op (.mv), [.r 3], none⟩,
          ⟨(some 51), .call 13, [.r 50, .k (.p (.int .i64 0)), .k (.p (.int .i64 200))], none⟩,
          ⟨(some 52), .op (.bin .add .num), [.r 49, .r 51], none⟩,
          ⟨(some 53), .callP 50, [.r 46, .r 48, .r 52], none⟩,
          ⟨(some 45), .op (.mv), [.r 53], none⟩,
          ⟨(some 54), .op (.ext 0), [.r 45], none⟩,
          ⟨(some 55), .op (.ext 1), [.r 45], none⟩,
          ⟨(some 13), .op (.mv), [.r 54], none⟩,
          ⟨(some 14), .op (.mv), [.r 55], none⟩] [(0, 5), (2, 5)] (some [3, 4, 5, 6, 7, 8, 10, 11, 12, 13, 14, 31, 32, 33]))
        (.seq
         (.seq
          (.ops [
            ⟨(some 56), .op (.mv), [.r 12], none⟩,
            ⟨(some 57), .op (.bin .neq .num), [.r 56, .k (.p (.int .i64 0))], none⟩,
            ⟨(some 58), .op (.mv), [.r 57], none⟩,
            ⟨(some 59), .op (.mv), [.r 14], (some (58, false))⟩,
            ⟨(some 60), .op (.bin .neq .num), [.r 59, .k (.p (.int .i64 0))], (some (58, false))⟩,
            ⟨(some 61), .op (.pick), [.r 58, .k (.p (.bool true)), .r 60], none⟩,
            ⟨(some 62), .op (.mv), [.r 61], none⟩,
            ⟨(some 63), .op (.mv), [.r 11], (some (62, false))⟩,
            ⟨(some 64), .op (.mv), [.r 13], (some (62, false))⟩,
            ⟨(some 65), .op (.bin .gtr .num), [.r 63, .r 64], (some (62, false))⟩,
            ⟨(some 66), .op (.pick), [.r 62, .k (.p (.bool true)), .r 65], none⟩] (some [3, 4, 5, 6, 7, 8, 10, 11, 31, 32, 33, 66]))
          (.cond (.r 66)
           (.seq
            (.ops [
              ⟨(some 2), .op (.mv), [.k (.p (.bool false))], none⟩] (some [2]))
            .ret)
           .skip))
         (.seq
          (.ops [
            ⟨(some 67), .op (.fa 1), [.r 10], none⟩,
            ⟨(some 68), .op (.ld none), [.r 67], none⟩,
            ⟨(some 69), .op (.bin .eql .num), [.r 68, .k (.p (.str [115, 104, 111, 112]))], none⟩,
            ⟨(some 70), .op (.mv), [.r 69], none⟩,
            ⟨(some 71), .op (.fa 5), [.r 10], (some (70, true))⟩,
            ⟨(some 72), .op (.ld none), [.r 71], (some (70, true))⟩,
            ⟨(some 73), .op (.bin .lss .num), [.r 72, .k (.p (.int .i64 0))], (some (70, true))⟩,
            ⟨(some 74), .op (.mv), [.r 73], (some (70, true))⟩,
            ⟨(some 75), .op (.fa 5), [.r 10], (some (74, false))⟩,
            ⟨(some 76), .op (.ld none), [.r 75], (some (74, false))⟩,
            ⟨(some 77), .op (.mv), [.r 5], (some (74, false))⟩,
            ⟨(some 78), .op (.bin .geq .num), [.r 76, .r 77], (some (74, false))⟩,
            ⟨(some 79), .op (.pick), [.r 74, .k (.p (.bool true)), .r 78], (some (70, true))⟩,
            ⟨(some 80), .op (.pick), [.r 70, .r 79, .k (.p (.bool false))], none⟩,
            ⟨(some 15), .op (.mv), [.r 80], none⟩] (some [3, 4, 5, 6, 7, 8, 10, 11, 15, 31, 32, 33]))
          (.seq
           (.ops [
             ⟨(some 81), .op (.mv), [.r 15], none⟩,
             ⟨(some 82), .op (.mv), [.r 81], none⟩,
             ⟨(some 83), .op (.mv), [.r 8], (some (82, true))⟩,
             ⟨(some 84), .op (.bin .neq .num), [.r 83, .k (.p (.int .i64 0))], (some (82, true))⟩,
             ⟨(some 85), .op (.mv), [.r 84], (some (82, true))⟩,
             ⟨(some 86), .op (.mv), [.r 7], (some (85, false))⟩,
             ⟨(some 87), .op (.fa 2), [.r 10], (some (85, false))⟩,
             ⟨(some 88), .op (.ld none), [.r 87], (some (85, false))⟩,
             ⟨(some 89), .op (.mv), [.r 11], (some (85, false))⟩,
             ⟨(some 90), .op (.bin .add .num), [.r 88, .r 89], (some (85, false))⟩,
             ⟨(some 91), .op (.bin .gtr .num), [.r 86, .r 90], (some (85, false))⟩,
             ⟨(some 92), .op (.pick), [.r 85, .k (.p (.bool true)), .r 91], (some (82, true))⟩,
             ⟨(some 93), .op (.pick), [.r 82, .r 92, .k (.p (.bool false))], none⟩,
             ⟨(some 94), .op (.mv), [.r 93], none⟩,
             ⟨(some 95), .op (.fa 0), [.r 10], (some (94, false))⟩,
             ⟨(some 96), .op (.ld none), [.r 95], (some (94, false))⟩,
             ⟨(some 97), .op (.mv), [.r 6], (some (94, false))⟩,
             ⟨(some 98), .op (.bin .eql .num), [.r 96, .r 97], (some (94, false))⟩,
             ⟨(some 99), .op (.mv), [.r 98], (some (94, false))⟩,
             ⟨(some 100), .op (.mv), [.r 15], (some (99, true))⟩,
             ⟨(some 101), .op (.un .not), [.r 100], (some (99, true))⟩,
             ⟨(some 102), .op (.mv), [.r 101], (some (99, true))⟩,
             ⟨(some 103), .op (.mv), [.r 7], (some (102, false))⟩,
             ⟨(some 104), .op (.fa 2), [.r 10], (some (102, false))⟩,
             ⟨(some 105), .op (.ld none), [.r 104], (some (102, false))⟩,
             ⟨(some 106), .op (.mv), [.r 11], (some (102, false))⟩,
             ⟨(some 107), .op (.bin .add .num), [.r 105, .r 106], (some (102, false))⟩,
             ⟨(some 108), .op (.bin .neq .num), [.r 103, .r 107], (some (102, false))⟩,
             ⟨(some 109), .op (.pick), [.r 102, .k (.p (.bool true)), .r 108], (some (99, true))⟩,
             ⟨(some 110), .op (.pick), [.r 99, .r 109, .k (.p (.bool false))], (some (94, false))⟩,
             ⟨(some 111), .op (.pick), [.r 94, .k (.p (.bool true)), .r 110], none⟩] (some [3, 4, 5, 6, 7, 8, 31, 32, 33, 111]))
           (.cond (.r 111)
            (.seq
             (.ops [
               ⟨(some 2), .op (.mv), [.k (.p (.bool false))], none⟩] (some [2]))
             .ret)
            .skip))))))))
    (.ops [
      ⟨(some 112), .op (.bin .add .num), [.r 33, .k (.p (.int .i64 1))], none⟩,
      ⟨(some 33), .op (.mv), [.r 112], none⟩] (some [3, 4, 5, 6, 7, 8, 31, 32, 33])))))
def ir_9 : IFun := ⟨121, [.t 2],
 (.seq
  (.ops [
    ⟨(some 2), .op (.mv), [.k (.p (.bool false))], none⟩] (some [0]))
  (.seq
   (.ops [
     ⟨(some 16), .op (.mv), [.r 0], none⟩,
     ⟨(some 17), .op (.build [(.nsl true), (.p (.int .i64 0))] [(0, 1), (1, 1)] [0]), [.r 16], none⟩,
     ⟨(some 18), .op (.boxH 25), [.r 17], none⟩,
     ⟨(some 3), .op (.mv), [.r 18], none⟩] (some [3]))
   (.seq
    (.ops [
      ⟨(some 19), .op (.mv), [.r 3], none⟩,
      ⟨(some 20), .call 48, [.r 19], none⟩,
      ⟨(some 21), .op (.mv), [.r 3], none⟩,
      ⟨(some 22), .call 13, [.r 21, .k (.p (.int .i64 0)), .k (.p (.int .i64 500))], none⟩,
      ⟨(some 4), .op (.allocL 4 [(.nsl true), (.nsl true)]), [], none⟩,
      ⟨none, .op (.st 2), [.r 4, .r 20], none⟩,
      ⟨(some 5), .op (.mv), [.r 22], none⟩] (some [3, 4, 5]))
    (.seq
     (.ops [
       ⟨(some 24), .op (.ld (some 2)), [.r 4], none⟩,
       ⟨(some 25), .op (.mv), [.r 5], none⟩,
       ⟨(some 26), .callP 49, [.r 24, .k (.p (.str [115, 104, 111, 112])), .r 25], none⟩,
       ⟨(some 23), .op (.mv), [.r 26], none⟩,
       ⟨(some 27), .op (.ext 0), [.r 23], none⟩,
       ⟨(some 28), .op (.ext 1), [.r 23], none⟩,
       ⟨(some 29), .op (.ext 2), [.r 23], none⟩,
       ⟨(some 6), .op (.mv), [.r 27], none⟩,
       ⟨(some 7), .op (.mv), [.r 28], none⟩,
       ⟨(some 8), .op (.mv), [.r 29], none⟩] (some [3, 4, 5, 6, 7, 8]))
     (.seq
      (.seq
       (.ops [
         ⟨(some 30), .op (.fa 1), [.r 4], none⟩,
         ⟨(some 31), .op (.ld none), [.r 30], none⟩,
         ⟨(some 32), .op (.lenl), [.r 31], none⟩,
         ⟨(some 33), .op (.mv), [.k (.p (.int .i64 0))], none⟩] (some [3, 4, 5, 6, 7, 8, 31, 32, 33]))
       (.block 0
        (.loop (some [3, 4, 5, 6, 7, 8, 31, 32, 33]) ir_9_l0)))
      (.seq
       (.ops [
         ⟨(some 113), .op (.mv), [.r 8], none⟩,
         ⟨(some 114), .op (.bin .eql .num), [.r 113, .k (.p (.int .i64 0))], none⟩,
         ⟨(some 115), .op (.mv), [.r 6], none⟩,
         ⟨(some 116), .op (.bin .neq .num), [.r 115, .k (.p (.str []))], none⟩,
         ⟨(some 117), .op (.bin .eql .bool), [.r 114, .r 116], none⟩,
         ⟨(some 118), .op (.mv), [.r 117], none⟩,
         ⟨(some 119), .callP 16, [], (some (118, true))⟩,
         ⟨(some 120), .op (.pick), [.r 118, .r 119, .k (.p (.bool false))], none⟩,
         ⟨(some 2), .op (.mv), [.r 120], none⟩] (some [2]))
       .ret))))))⟩
theorem tr_9 : trFn Go.Proofs.Tryz.prog h_9 Go.Proofs.Tryz.f9 = some ir_9 := by kernel_rfl
theorem walk_9 {args : List RV} {S : Mem} {Q : RV → Mem → Prop} (hS : S.loc = []) (ha : args.length ≤ 121) (h : fnF false Go.Proofs.Tryz.prog ir_9 args S Q) : SC Go.Proofs.Tryz.prog 9 args S Q := SC.walk mix Go.Proofs.Tryz.func9 tr_9 hS ha h
end Go.Ag
/- The functions that are run: one more table. -/
namespace Go.Ag
open Go
noncomputable def tabP : BT := (.node 205 (trFn Go.Proofs.Tryz.prog (hn [] [] [] [(0, [0, 1]), (1, [4])] []) Go.Proofs.Tryz.f205)
 (.node 158 (trFn Go.Proofs.Tryz.prog (hn [] [] [] [(0, [0, 1]), (1, [4])] []) Go.Proofs.Tryz.f158)
 (.node 129 (trFn Go.Proofs.Tryz.prog (hn [] [] [] [(0, [0, 1]), (1, [4])] []) Go.Proofs.Tryz.f129)
 (.node 110 (trFn Go.Proofs.Tryz.prog (hn [] [] [] [(0, [1, 2, 4]), (1, [2, 4, 6, 7]), (2, [2, 4, 6, 16]), (3, [4, 5]), (4, [4, 5])] []) Go.Proofs.Tryz.f110)
 (.node 108 (trFn Go.Proofs.Tryz.prog (hn [] [] [] [(0, [1, 2]), (1, [4, 5])] []) Go.Proofs.Tryz.f108)
 .leaf .leaf) .leaf) (.node 155 (trFn Go.Proofs.Tryz.prog (hn [] [] [] [(0, [0]), (1, [0, 3]), (2, [0, 3, 8]), (4, [0, 3, 4]), (5, [0, 3, 40]), (6, [2]), (3, [0, 3]), (7, [2])] [(2, [0, 3])]) Go.Proofs.Tryz.f155)
 (.node 150 (trFn Go.Proofs.Tryz.prog (hn [] [] [] [(0, [0]), (1, [3]), (2, [3, 8, 9, 10]), (3, [3, 8, 9, 10, 11]), (4, [3, 4, 5, 8, 9, 10]), (5, [3, 8, 9, 10, 29]), (6, [2]), (7, [3, 8, 9, 10]), (8, [2])] [(3, [3, 8, 9, 10])]) Go.Proofs.Tryz.f150)
 .leaf .leaf) .leaf)) (.node 170 (trFn Go.Proofs.Tryz.prog (hn [] [] [] [(0, [0, 1, 2]), (1, [0, 1, 2, 8]), (2, [0, 1, 2, 8, 9, 10]), (3, [0, 1, 2, 8, 9, 10, 17]), (4, [0, 1, 2, 8, 9, 10, 11]), (5, [0, 1, 2, 8, 9, 10, 11, 31]), (7, [0, 1, 2, 8, 9, 10]), (6, [0, 1, 2, 8, 9, 10]), (8, [6, 7])] [(3, [0, 1, 2, 8, 9, 10])]) Go.Proofs.Tryz.f170)
 (.node 169 (trFn Go.Proofs.Tryz.prog (hn [] [] [] [(0, [1, 2]), (1, [4])] []) Go.Proofs.Tryz.f169)
 (.node 168 (trFn Go.Proofs.Tryz.prog (hn [] [] [] [(0, [0, 1, 2]), (1, [0, 1, 2, 8]), (2, [0, 1, 2, 8, 9, 10]), (3, [0, 1, 2, 8, 9, 10, 17]), (4, [0, 1, 2, 8, 9, 10, 11]), (5, [0, 1, 2, 8, 9, 10, 11, 31]), (7, [0, 1, 2, 8, 9, 10]), (6, [0, 1, 2, 8, 9, 10]), (8, [6, 7])] [(3, [0, 1, 2, 8, 9, 10])]) Go.Proofs.Tryz.f168)
 .leaf .leaf) .leaf) (.node 189 (trFn Go.Proofs.Tryz.prog (hn [] [] [] [(0, [0, 1, 2, 3]), (1, [0, 1, 2, 3, 13]), (2, [8]), (3, [0, 1, 2, 3, 15]), (4, [8]), (5, [0, 1, 2, 3, 20]), (6, [0, 1, 2, 3]), (7, [0, 1, 2, 3]), (8, [0, 1, 2, 3, 9]), (9, [0, 1, 2, 3, 9]), (10, [0, 1, 2, 3, 9, 10]), (11, [0, 1, 2, 3, 9, 10, 36]), (12, [0, 1, 2, 3, 9, 10, 11]), (13, [0, 1, 2, 3, 9, 10, 11, 41]), (14, [0, 1, 2, 3, 9, 10, 11]), (15, [0, 1, 2, 3, 9, 10]), (16, [0, 1, 2, 3, 9, 10]), (17, [9, 10]), (18, [8])] [(11, [0, 1, 2, 3, 9, 10])]) Go.Proofs.Tryz.f189)
 (.node 171 (trFn Go.Proofs.Tryz.prog (hn [] [] [] [(0, [1, 2]), (1, [4])] []) Go.Proofs.Tryz.f171)
 .leaf .leaf) .leaf))) (.node 267 (trFn Go.Proofs.Tryz.prog (hn [] [] [] [(0, [0, 1]), (1, [0, 1, 5]), (2, [0, 1, 5, 16]), (4, [0, 1, 5, 24]), (6, [0, 1, 5, 31]), (8, [0, 1, 5, 36]), (9, [4]), (7, [4]), (5, [4]), (3, [4]), (10, [0, 1, 5, 6]), (11, [0, 1, 5, 6, 7]), (12, [0, 1, 5, 6, 7, 8]), (13, [0, 1, 5, 6, 7, 8, 9]), (14, [0, 1, 5, 6, 7, 8, 9, 10]), (15, [0, 1, 5, 6, 7, 8, 9, 10, 59]), (16, [0, 1, 5, 6, 7, 8, 9, 10, 64]), (17, [0, 1, 5, 6, 7, 8, 9, 10, 11]), (18, [0, 1, 5, 6, 7, 8, 9, 10, 11, 73]), (19, [4]), (20, [0, 1, 5, 6, 7, 8, 9, 10]), (21, [0, 1, 5, 6, 7, 8, 9, 10, 93]), (22, [4]), (23, [0, 1, 5, 6, 7, 8, 9, 10]), (24, [0, 1, 5, 6, 7, 8, 9, 10]), (25, [0, 1, 5, 6, 7, 8, 9, 10, 107]), (30, [0, 1, 5, 6, 7, 8, 9, 10, 132]), (31, [8, 13]), (32, [8, 13, 139]), (33, [4]), (34, [4]), (26, [8, 12]), (27, [8, 12, 114]), (28, [4]), (29, [4]), (35, [4])] [(15, [0, 1, 5, 6, 7, 8, 9, 10])]) Go.Proofs.Tryz.f267)
 (.node 240 (trFn Go.Proofs.Tryz.prog (hn [] [] [] [(0, [0, 1]), (1, [4])] []) Go.Proofs.Tryz.f240)
 (.node 239 (trFn Go.Proofs.Tryz.prog (hn [] [] [] [(0, [0, 1]), (1, [0, 1, 9]), (2, [4]), (3, [0, 1, 15]), (4, [4]), (5, [0, 1, 5]), (6, [0, 1, 5, 6]), (7, [0, 1, 5, 6, 24]), (8, [4]), (9, [0, 1, 5, 6]), (10, [0, 1, 5])] [(6, [0, 1, 5])]) Go.Proofs.Tryz.f239)
 (.node 238 (trFn Go.Proofs.Tryz.prog (hn [] [] [] [(0, [0, 1]), (1, [0, 1, 5]), (2, [0, 1, 5, 18]), (3, [0, 1]), (4, [0, 1, 6]), (5, [0, 1, 6, 7]), (6, [0, 1, 6, 7, 25]), (8, [0, 1, 6, 7, 9]), (9, [0, 1, 6, 7, 9]), (10, [0, 1, 6, 7]), (7, [0, 1, 6, 7]), (11, [0, 1, 6, 43]), (12, [6]), (13, [4])] [(6, [0, 1, 6, 7])]) Go.Proofs.Tryz.f238)
 .leaf .leaf) .leaf) (.node 266 (trFn Go.Proofs.Tryz.prog (hn [] [] [] [(0, [0, 1]), (1, [4])] []) Go.Proofs.Tryz.f266)
 (.node 242 (trFn Go.Proofs.Tryz.prog (hn [] [] [] [(0, [0]), (1, [0, 10]), (3, [2, 3]), (2, [2, 3])] []) Go.Proofs.Tryz.f242)
 .leaf .leaf) .leaf)) (.node 300 (trFn Go.Proofs.Tryz.prog (hn [] [] [] [(0, [0]), (1, [2])] []) Go.Proofs.Tryz.f300)
 (.node 279 (trFn Go.Proofs.Tryz.prog (hn [] [] [] [(0, [0]), (1, [0, 4]), (2, [0, 4, 16]), (3, [2, 3]), (4, [0, 4, 5]), (5, [0, 4, 5, 6]), (6, [0, 4, 5, 6, 23]), (7, [0, 7]), (8, [2, 3]), (9, [0, 4, 5, 6, 8]), (10, [0, 4, 5, 8, 9]), (11, [0, 5, 8, 9, 45]), (12, [2, 3]), (13, [0, 5, 8, 9, 10]), (14, [0, 5, 8, 10, 57]), (15, [2, 3]), (16, [0, 5, 8, 10, 59]), (17, [2, 3]), (18, [0, 5, 8, 10, 11]), (19, [0, 5, 8, 10, 11, 75]), (20, [2, 3]), (21, [0, 5, 10, 11, 77]), (22, [2, 3]), (23, [5, 10, 11, 12]), (24, [5, 10, 11, 12, 98]), (25, [2, 3]), (26, [2, 3])] []) Go.Proofs.Tryz.f279)
 (.node 277 (trFn Go.Proofs.Tryz.prog (hn [] [] [] [(0, [0, 2]), (1, [2, 4]), (2, [2, 4, 6]), (3, [2, 4]), (4, [2])] [(2, [2, 4])]) Go.Proofs.Tryz.f277)
 .leaf .leaf) .leaf) (.node 318 (trFn Go.Proofs.Tryz.prog (hn [] [] [] [(0, [0]), (1, [0, 4]), (2, [0, 4, 5]), (3, [0, 4, 5, 12]), (5, [0, 4, 5]), (4, [0, 4, 5]), (6, [0, 4, 6, 7]), (7, [4, 6, 7, 8]), (8, [4, 6, 7, 8, 25]), (10, [4, 6, 7, 8, 30]), (11, [4, 6, 7, 8]), (12, [4, 6, 7, 8]), (9, [4, 6, 7, 8]), (13, [2, 3])] [(3, [0, 4, 5]), (8, [4, 6, 7, 8])]) Go.Proofs.Tryz.f318)
 (.node 301 (trFn Go.Proofs.Tryz.prog (hn [] [] [] [(0, [0, 1]), (1, [0, 1, 5, 6]), (2, [0, 1, 5, 6, 7]), (3, [0, 1, 5, 6, 7, 8]), (4, [0, 1, 5, 6, 7, 8, 9]), (5, [0, 1, 5, 6, 7, 8, 9, 20]), (7, [0, 1, 5, 6, 7, 8, 9]), (6, [0, 1, 5, 6, 7, 8, 9]), (8, [0, 1, 5, 6, 7, 8, 39]), (9, [4]), (10, [0, 1, 5, 6, 7, 8, 10]), (11, [0, 1, 5, 6, 7, 8, 10, 44]), (12, [0, 1, 5, 6, 7, 8, 10]), (13, [0, 1, 5, 6, 7, 8, 10]), (14, [0, 1, 5, 6, 7, 8, 10]), (15, [0, 1, 5, 6, 7, 8, 10]), (16, [0, 1, 5, 6, 7, 8, 10, 77]), (17, [4]), (18, [4])] [(5, [0, 1, 5, 6, 7, 8, 9]), (11, [0, 1, 5, 6, 7, 8, 10])]) Go.Proofs.Tryz.f301)
 .leaf .leaf) .leaf))))
theorem tabP_ok : tabP.Ok Go.Proofs.Tryz.prog := by unfold tabP; exact (BT.nd Go.Proofs.Tryz.func205 (BT.nd Go.Proofs.Tryz.func158 (BT.nd Go.Proofs.Tryz.func129 (BT.nd Go.Proofs.Tryz.func110 (BT.nd Go.Proofs.Tryz.func108 BT.lf BT.lf) BT.lf) (BT.nd Go.Proofs.Tryz.func155 (BT.nd Go.Proofs.Tryz.func150 BT.lf BT.lf) BT.lf)) (BT.nd Go.Proofs.Tryz.func170 (BT.nd Go.Proofs.Tryz.func169 (BT.nd Go.Proofs.Tryz.func168 BT.lf BT.lf) BT.lf) (BT.nd Go.Proofs.Tryz.func189 (BT.nd Go.Proofs.Tryz.func171 BT.lf BT.lf) BT.lf))) (BT.nd Go.Proofs.Tryz.func267 (BT.nd Go.Proofs.Tryz.func240 (BT.nd Go.Proofs.Tryz.func239 (BT.nd Go.Proofs.Tryz.func238 BT.lf BT.lf) BT.lf) (BT.nd Go.Proofs.Tryz.func266 (BT.nd Go.Proofs.Tryz.func242 BT.lf BT.lf) BT.lf)) (BT.nd Go.Proofs.Tryz.func300 (BT.nd Go.Proofs.Tryz.func279 (BT.nd Go.Proofs.Tryz.func277 BT.lf BT.lf) BT.lf) (BT.nd Go.Proofs.Tryz.func318 (BT.nd Go.Proofs.Tryz.func301 BT.lf BT.lf) BT.lf))))
end Go.Ag
