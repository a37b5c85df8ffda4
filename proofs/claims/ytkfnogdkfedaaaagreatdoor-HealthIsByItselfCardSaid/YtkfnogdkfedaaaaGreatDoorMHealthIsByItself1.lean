/- Several texts of one proof in one file, one after another, each with its own head: the machine's side of a law and the plain side; conditions: those of each theorem. -/
import Derived.Test.YtkfnogdkfedaaaaGreatDoorMHealthIsByItself0
import Derived.Deep.LoopGhost
import Derived.Orders
import Derived.Scope
set_option linter.unusedVariables false
set_option linter.unusedSimpArgs false
/- An abstract machine for Go functions, thirteenth part: each operation does as its function says. -/
namespace Go.Ag
open Go
set_option linter.unusedVariables false
set_option linter.unusedSimpArgs false
section
variable {P : Program} {X : Cells} {ow : Ow} {S : Mem} {w : World}

theorem StepOk.same (hM : MRel X ow S w) {res : Result Next} {v : Value} {r : RV} (h : res = .ok (.value v) w) (hr : RRep (FX X ow S.toks) w ow S.toks r v) : StepOk X ow S w res r S none :=
  ⟨.value v, v, ow, w, h, .inl rfl, hM, Tr.refl _ _ _ _, fun _ _ h _ => h, hr⟩

theorem tk_spec {t : TypeId} {y : Operand} : (match tkOf P t y with
      | .bool => P.underlying t = some .bool
      | .ptr => P.underlying t = some (.pointer (P.pointee t)) ∧ ∃ j, P.info? (P.pointee t) = some j
      | .ifcc => (∃ e, P.underlying t = some (.interface e)) ∧ ∃ c, y = .const c
      | .sl => ∃ e, P.underlying t = some (.slice e)
      | _ => True) := by
  generalize hk : tkOf P t y = k
  unfold tkOf at hk
  split at hk
  · rename_i hu; subst hk; exact hu
  · rename_i e hu
    split at hk
    · rename_i hi; subst hk
      have : P.pointee t = e := by simp [Program.pointee, hu]
      rw [this]
      exact ⟨hu, Option.isSome_iff_exists.1 hi⟩
    · subst hk; trivial
  · rename_i e c hu; subst hk; exact ⟨⟨_, hu⟩, _, rfl⟩
  · rename_i e hu; subst hk; exact ⟨_, hu⟩
  · subst hk; trivial

/-- The operands' values. -/
structure Args (F : Cells) (w : World) (ow : Ow) (T : List (Nat × Nat × Nat)) (ρ : Operand → Value) (xs : List Operand) (vals : List RV) : Prop where
  len : vals.length = xs.length
  at_ : ∀ (k : Nat) x r, xs[k]? = some x → vals[k]? = some r → RRep F w ow T r (ρ x)

theorem Args.one {F w ow T ρ x vals} (h : Args F w ow T ρ [x] vals) : ∃ r, vals = [r] ∧ RRep F w ow T r (ρ x) := by
  have := h.len
  match vals, this with
  | [r], _ => exact ⟨r, rfl, h.at_ 0 x r rfl rfl⟩
theorem Args.two {F w ow T ρ x y vals} (h : Args F w ow T ρ [x, y] vals) : ∃ r q, vals = [r, q] ∧ RRep F w ow T r (ρ x) ∧ RRep F w ow T q (ρ y) := by
  have := h.len
  match vals, this with
  | [r, q], _ => exact ⟨r, q, rfl, h.at_ 0 x r rfl rfl, h.at_ 1 y q rfl rfl⟩
theorem Args.three {F w ow T ρ x y z vals} (h : Args F w ow T ρ [x, y, z] vals) : ∃ r q s, vals = [r, q, s] ∧ RRep F w ow T r (ρ x) ∧ RRep F w ow T q (ρ y) ∧ RRep F w ow T s (ρ z) := by
  have := h.len
  match vals, this with
  | [r, q, s], _ => exact ⟨r, q, s, rfl, h.at_ 0 x r rfl rfl, h.at_ 1 y q rfl rfl, h.at_ 2 z s rfl rfl⟩
theorem Args.tail {F w ow T ρ x xs r vals} (h : Args F w ow T ρ (x :: xs) (r :: vals)) : RRep F w ow T r (ρ x) ∧ Args F w ow T ρ xs vals :=
  ⟨h.at_ 0 x r rfl rfl, ⟨by have := h.len; simpa using this, fun k y q a b => h.at_ (k + 1) y q (by simpa using a) (by simpa using b)⟩⟩

theorem rint {F ow T} {k n} {v : Value} (h : RRep F w ow T (.p (.int k n)) v) : v = .int k n := by
  rcases h with ⟨d, off, β, h, _⟩ | h
  · cases h
  · cases h with | p h => cases h; rfl
theorem rstr {F ow T} {s} {v : Value} (h : RRep F w ow T (.p (.str s)) v) : v = .string ⟨⟨s⟩⟩ := by
  rcases h with ⟨d, off, β, h, _⟩ | h
  · cases h
  · cases h with | p h => cases h; rfl
theorem rbool {F ow T} {b} {v : Value} (h : RRep F w ow T (.p (.bool b)) v) : v = .bool b := by
  rcases h with ⟨d, off, β, h, _⟩ | h
  · cases h
  · cases h with | p h => cases h; rfl
theorem oInt_spec {r : RV} {n : Int} (h : oInt r = some n) : ∃ k, r = .p (.int k n) := by
  unfold oInt at h
  split at h
  · cases h; exact ⟨_, rfl⟩
  · cases h
theorem oStr_spec {r : RV} {s} (h : oStr r = some s) : r = .p (.str s) := by
  unfold oStr at h
  split at h
  · cases h; rfl
  · cases h
theorem oBool_spec {r : RV} {s} (h : oBool r = some s) : r = .p (.bool s) := by
  unfold oBool at h
  split at h
  · cases h; rfl
  · cases h

theorem cut_spec {F ow T} {ρ : Operand → Value} {lo hi : Option Operand} {vals : List RV} {l h : Option Int} (ha : Args F w ow T ρ (lo.toList ++ hi.toList) vals) (hc : cutArgs lo.isSome hi.isSome vals = some (l, h)) :
    ∃ lo' hi' : Option (IntKind × Int), l = lo'.map (·.2) ∧ h = hi'.map (·.2) ∧ lo.map ρ = lo'.map (fun x => .int x.1 x.2) ∧ hi.map ρ = hi'.map (fun x => .int x.1 x.2) := by
  cases lo with
  | none =>
    cases hi with
    | none =>
      have := ha.len
      simp at this
      subst this
      simp [cutArgs] at hc
      obtain ⟨rfl, rfl⟩ := hc
      exact ⟨none, none, rfl, rfl, rfl, rfl⟩
    | some y =>
      obtain ⟨r, rfl, hr⟩ := Args.one (x := y) (by simpa using ha)
      simp only [cutArgs, Option.isSome_none, Option.isSome_some, Option.map_eq_some_iff] at hc
      obtain ⟨b, hb, he⟩ := hc
      cases he
      obtain ⟨k, rfl⟩ := oInt_spec hb
      exact ⟨none, some (k, b), rfl, rfl, rfl, by simp [rint hr]⟩
  | some x =>
    cases hi with
    | none =>
      obtain ⟨r, rfl, hr⟩ := Args.one (x := x) (by simpa using ha)
      simp only [cutArgs, Option.isSome_none, Option.isSome_some, Option.map_eq_some_iff] at hc
      obtain ⟨b, hb, he⟩ := hc
      cases he
      obtain ⟨k, rfl⟩ := oInt_spec hb
      exact ⟨some (k, b), none, rfl, rfl, by simp [rint hr], rfl⟩
    | some y =>
      obtain ⟨r, q, rfl, hr, hq⟩ := Args.two (x := x) (y := y) (by simpa using ha)
      simp only [cutArgs, Option.isSome_some] at hc
      split at hc
      · rename_i a b h1 h2
        cases hc
        obtain ⟨k1, rfl⟩ := oInt_spec h1
        obtain ⟨k2, rfl⟩ := oInt_spec h2
        exact ⟨some (k1, a), some (k2, b), rfl, rfl, by simp [rint hr], by simp [rint hq]⟩
      · cases hc

theorem toPVs_fc {rs : List RV} {xs : List PV} (h : RV.toPVs rs = some xs) : ∀ r ∈ rs, r.fc = true := by
  intro r hr
  obtain ⟨i1, i2⟩ := mapO_get h
  obtain ⟨k, hk⟩ := List.getElem?_of_mem hr
  have hkl := (List.getElem?_eq_some_iff.1 hk).1
  obtain ⟨q, h1, h2⟩ := i2 k _ (List.getElem?_eq_getElem (by omega))
  rw [hk] at h1
  cases h1
  cases r <;> simp_all [RV.toPV, RV.toPVn, RV.fc]

theorem parts_zip (parts : Array (Nat × Operand)) (ρ : Operand → Value) {len : Nat} (hl : parts.toList.length = len) (hr : parts.toList.map (·.1) = List.range len) :
    parts.map (fun x => (x.1, ρ x.2)) = (((parts.toList.map fun x => ρ x.2).zipIdx 0).map fun x => (x.2, x.1)).toArray := by
  apply Array.ext'
  simp only [Array.toList_map]
  apply List.ext_getElem?
  intro k
  simp only [List.getElem?_map, List.getElem?_zipIdx, Nat.zero_add]
  cases h : parts.toList[k]? with
  | none => rfl
  | some y =>
    have hk := (List.getElem?_eq_some_iff.1 h).1
    have : (parts.toList.map (·.1))[k]? = some y.1 := by simp [h]
    rw [hr, List.getElem?_range (by omega)] at this
    cases this
    rfl

theorem ok_bslo (hM : MRel X ow S w) {xs : List PV} {z len : Nat} {e : TypeId} {cells : Array Value} (hz0 : z ≠ 0) (huni : uni z xs = true) (hxl : xs.length = len) (hsz : cells.size = len * z)
    (hrep : Rep (FX X ow S.toks) (w.alloc (.cells cells e)) (.sl xs) (.slice (some ⟨w.heap.size, 0, none⟩) len len)) :
    ∃ ow', MRel X ow' { S with toks := S.toks ++ [(xs.length, z, e)] } (w.alloc (.cells cells e)) ∧ Tr X ow S.toks w ow' (S.toks ++ [(xs.length, z, e)]) (w.alloc (.cells cells e)) ∧
      (∀ β d, ow β = some (.loc d) → ow' β = some (.loc d)) ∧ FRep (FX X ow' (S.toks ++ [(xs.length, z, e)])) (w.alloc (.cells cells e)) ow' (S.toks ++ [(xs.length, z, e)]) (.own xs S.toks.length) (.slice (some ⟨w.heap.size, 0, none⟩) len len) := by
  obtain ⟨m1, m2⟩ := hM.pushTok cells xs.length (z, e) hz0 (by rw [hsz, hxl]; exact Nat.le_refl _)
  refine ⟨_, m1, m2, fun β d h => by rw [owNew_old (hM.bnd _ _ h), h], .own _ _ _ (by simp) (hrep.mono ?_) (fun e' z' he => ?_)⟩
  · intro β o u hc hF
    refine ⟨hc, ?_⟩
    rintro (hx | hx)
    · exact hF (.inl hx)
    · have hb := cell_lt hc
      simp only [World.size_alloc] at hb
      unfold Mut at hx
      by_cases hβ : β = w.heap.size
      · subst hβ
        rw [owNew_new] at hx
        obtain ⟨e', z', h1, h2⟩ := hx
        simp at h1
        obtain ⟨rfl, rfl⟩ := h1
        have : o < cells.size := by
          unfold World.cell? at hc
          rw [heap_push_new] at hc
          simp at hc
          exact (Array.getElem?_eq_some_iff.1 hc).1
        rw [hsz, ← hxl] at this
        simp only at h2
        omega
      · rw [owNew_old (by omega)] at hx
        refine hF (.inr ?_)
        unfold Mut
        revert hx
        cases ho : ow β with
        | none => exact id
        | some q =>
          cases q with
          | mem b => exact id
          | loc d => exact id
          | tok t =>
            rintro ⟨e', z', h1, h2⟩
            rw [List.getElem?_append_left (hM.toklt _ _ ho)] at h1
            exact ⟨e', z', h1, h2⟩
  · simp at he
    obtain ⟨rfl, rfl⟩ := he
    refine ⟨Nat.le_refl _, uni_spec huni, fun _ => ⟨w.heap.size, len, by rw [hxl], owNew_new, ?_⟩⟩
    unfold World.shape?
    rw [heap_push_new]
    simp [hsz]

theorem op_sound (hM : MRel X ow S w) {hn : Hint} {o : Oper} {io : IOp} {xs : List Operand} {ρ : Operand → Value} {vals : List RV} {r : RV} {S' : Mem}
    (ht : trOp P hn o = some (io, xs)) (hv : Args (FX X ow S.toks) w ow S.toks ρ xs vals) (ha : opA io vals S = some (r, S')) : StepOk X ow S w ((execOp ρ o).run P w) r S' io.dropped := by
  unfold trOp at ht
  unfold execOp
  split at ht
  -- move
  · rename_i x hop
    cases ht
    obtain ⟨r1, rfl, h1⟩ := hv.one
    simp only [opA, Option.some.injEq, Prod.mk.injEq] at ha
    obtain ⟨rfl, rfl⟩ := ha
    simp only [hop]
    exact StepOk.same hM rfl h1
  -- assign
  · rename_i x hop
    cases ht
    obtain ⟨r1, rfl, h1⟩ := hv.one
    simp only [opA, Option.some.injEq, Prod.mk.injEq] at ha
    obtain ⟨rfl, rfl⟩ := ha
    simp only [hop]
    exact StepOk.same hM rfl h1
  -- pick
  · rename_i c a b hop
    cases ht
    obtain ⟨r1, r2, r3, rfl, h1, h2, h3⟩ := hv.three
    simp only [opA, Option.map_eq_some_iff, Prod.mk.injEq] at ha
    obtain ⟨t, h4, rfl, rfl⟩ := ha
    obtain rfl := oBool_spec h4
    simp only [hop]
    have := rbool h1
    refine StepOk.same hM (v := if t then ρ a else ρ b) (by simp [this, asBool]) ?_
    cases t
    · exact h3
    · exact h2
  -- binOp
  · rename_i op t x y yt hop
    cases ht
    obtain ⟨r1, r2, rfl, h1, h2⟩ := hv.two
    simp only [opA] at ha
    split at ha
    case isFalse => cases ha
    rename_i hbo
    simp only [Option.map_eq_some_iff, Prod.mk.injEq] at ha
    obtain ⟨q, h4, rfl, rfl⟩ := ha
    simp only [hop]
    have hal : ∀ b off, tkOf P t y = .ptr → r1 = .ptr b off → ¬ Dead S.toks b := by
      intro b off hk hr
      subst hr
      rw [hk] at hbo
      simp only [binOk] at hbo
      split at hbo
      · rename_i ty cs hcs
        exact (hM.blk b _ hcs).1
      · cases hbo
    have f1 : r1.fc = true := by
      unfold binA at h4
      cases r1
      case la => split at h4 <;> simp_all [slNil]
      all_goals rfl
    have f2 : r2.fc = true := by unfold binA at h4; cases r2 <;> simp_all [RV.fc]
    obtain ⟨v, e1, e2⟩ := run_binA (P := P) (xo := x) tk_spec h4 hM.inj hal (h1.f f1) (h2.f f2)
    exact (StepOk.val (OpOk.samef hM e1 (.p e2))).weaken
  -- unOp
  · rename_i op t x hop
    cases ht
    obtain ⟨r1, rfl, h1⟩ := hv.one
    simp only [opA, Option.map_eq_some_iff, Prod.mk.injEq] at ha
    obtain ⟨q, h4, rfl, rfl⟩ := ha
    simp only [hop]
    exact (StepOk.val (ok_un hM h1 h4)).weaken
  -- convert
  · rename_i src dst x hop
    split at ht
    · rename_i k0 k hs hd
      cases ht
      obtain ⟨r1, rfl, h1⟩ := hv.one
      simp only [opA, Option.map_eq_some_iff, Prod.mk.injEq] at ha
      obtain ⟨n, h4, rfl, rfl⟩ := ha
      obtain ⟨k1, rfl⟩ := oInt_spec h4
      simp only [hop]
      rw [rint h1]
      exact (StepOk.val (ok_cint hM hs hd)).weaken
    · rename_i k0 hs hd
      cases ht
      obtain ⟨r1, rfl, h1⟩ := hv.one
      simp only [opA, Option.map_eq_some_iff, Prod.mk.injEq] at ha
      obtain ⟨n, h4, rfl, rfl⟩ := ha
      obtain ⟨k1, rfl⟩ := oInt_spec h4
      simp only [hop]
      rw [rint h1]
      exact (StepOk.val (ok_i2s hM hs hd)).weaken
    · rename_i e hs hd
      split at ht
      · rename_i he
        cases ht
        obtain ⟨r1, rfl, h1⟩ := hv.one
        simp only [opA, Option.bind_eq_some_iff, Option.map_eq_some_iff, Prod.mk.injEq] at ha
        obtain ⟨ys, h4, bs, h5, rfl, rfl⟩ := ha
        simp only [hop]
        exact (StepOk.val (ok_b2s hM hs he hd h1 h4 h5)).weaken
      · cases ht
    · cases ht
  -- build
  · rename_i t parts hop
    split at ht
    · rename_i z pl hk
      cases ht
      simp only [opA, Option.map_eq_some_iff, Prod.mk.injEq] at ha
      obtain ⟨cs, h4, rfl, rfl⟩ := ha
      simp only [hop]
      have hlen := hv.len
      simp only [List.length_map] at hlen
      refine (StepOk.val (ok_build hM hk (by simp [hlen]) (fun k a b h1 h2 => ?_) h4)).weaken
      simp only [Array.toList_map, List.getElem?_map, Option.map_eq_some_iff] at h2
      obtain ⟨p, hp, rfl⟩ := h2
      rw [List.getElem?_zip_eq_some] at h1
      obtain ⟨g1, g2⟩ := h1
      simp only [List.getElem?_map, hp, Option.map_some, Option.some.injEq] at g1
      refine ⟨g1.symm, ?_⟩
      have hR := hv.at_ k p.2 a.2 (by simp [hp]) g2
      refine hR.f ?_
      -- a part that is put in is no address
      have : ∀ (rs : List (Nat × RV)) (c0 c1 : List RV), fillA pl c0 rs = some c1 → ∀ q ∈ rs, q.2.fc = true := by
        intro rs
        induction rs with
        | nil => intro _ _ _ q hq; cases hq
        | cons y ys ih =>
          intro c0 c1 hf q hq
          obtain ⟨i, y⟩ := y
          simp only [fillA] at hf
          split at hf
          · cases hf
          · split at hf
            · rename_i hc
              rcases List.mem_cons.1 hq with rfl | hq
              · simp only [Bool.and_eq_true] at hc
                cases y <;> simp_all [RV.solid, RV.fc]
              · exact ih _ _ hf q hq
            · cases hf
      refine this _ _ _ h4 a ?_
      refine List.mem_of_getElem? (i := k) ?_
      rw [List.getElem?_zip_eq_some]
      exact ⟨by simp [hp, g1], g2⟩
    · cases ht
  -- buildSlice
  · rename_i t len parts hop
    split at ht
    · rename_i e hu
      split at ht
      · rename_i ti hi
        split at ht
        · rename_i hc
          simp only [Bool.and_eq_true, bne_iff_ne, ne_eq, beq_iff_eq, decide_eq_true_eq, Option.isSome_iff_exists] at hc
          obtain ⟨⟨⟨⟨⟨⟨⟨z, hz⟩, hz0⟩, hl0⟩, hsm⟩, hpl⟩, hpr⟩, _⟩ := hc
          have hvl := hv.len
          have hxs : xs = parts.toList.map (·.2) := by cases ht; rfl
          subst hxs
          simp only [List.length_map, hpl] at hvl
          simp only [hop]
          rw [parts_zip parts ρ hpl hpr]
          have both : ∀ ys, RV.toPVs vals = some ys → uni ti.size ys = true → _ := fun ys hy hun =>
            ok_bsl (P := P) (vs := parts.toList.map fun x => ρ x.2) (rs := vals) hM hu hi hz hz0 hl0 hsm hvl (by simp [hpl]) (fun k q v h1 h2 => by
              simp only [List.getElem?_map, Option.map_eq_some_iff] at h2
              obtain ⟨p, hp, rfl⟩ := h2
              exact (hv.at_ k p.2 q (by simp [hp]) h1).f (toPVs_fc hy q (List.mem_of_getElem? h1))) hy hun (uni_top hun)
          split at ht
          · cases ht
            simp only [opA, Option.bind_eq_some_iff] at ha
            obtain ⟨ys, hy, ha⟩ := ha
            split at ha
            · rename_i hun
              cases ha
              obtain ⟨ow', w', h1, h2, h3, h4, h5, h6, cells, h7, h8⟩ := both ys hy hun
              subst h3
              subst h7
              have hyl : ys.length = len := by rw [(mapO_get hy).1, hvl]
              obtain ⟨ow2, g1, g2, g3, g4⟩ := ok_bslo (S := S) hM hz0 hun hyl h8 h6
              exact ⟨_, _, _, _, by simp [h1], .inl rfl, g1, g2, fun β d h _ => g3 β d h, .inr g4⟩
            · cases ha
          · cases ht
            simp only [opA, Option.bind_eq_some_iff] at ha
            obtain ⟨ys, hy, ha⟩ := ha
            split at ha
            · rename_i hun
              cases ha
              obtain ⟨ow', w', h1, h2, h3, h4, h5, h6, _⟩ := both ys hy hun
              subst h3
              exact ⟨_, _, _, _, by simp [h1], .inl rfl, h4, h5, fun β d h _ => h, .inr (.p h6)⟩
            · cases ha
        · cases ht
      · cases ht
    · cases ht
  -- field
  · rename_i t x i hop
    split at ht
    · rename_i fs hu
      split at ht
      · rename_i f hf
        simp only [Option.map_eq_some_iff] at ht
        obtain ⟨n, hk, ht⟩ := ht
        cases ht
        obtain ⟨r1, rfl, h1⟩ := hv.one
        simp only [opA, Option.map_eq_some_iff, Prod.mk.injEq] at ha
        obtain ⟨q, h4, rfl, rfl⟩ := ha
        simp only [hop]
        exact (StepOk.val (ok_fld hM hu hf hk h1 h4)).weaken
      · cases ht
    · cases ht
  -- fieldAddr
  · rename_i t x i hop
    split at ht
    · rename_i fs hu
      split at ht
      · rename_i f hf
        split at ht
        · rename_i ti hi
          split at ht
          · rename_i hz
            cases ht
            obtain ⟨r1, rfl, h1⟩ := hv.one
            simp only [opA, Option.map_eq_some_iff, Prod.mk.injEq] at ha
            obtain ⟨q, h4, rfl, rfl⟩ := ha
            simp only [hop]
            exact (StepOk.val (ok_fa hM hu hf hi (by simpa using hz) h1 h4)).weaken
          · cases ht
        · cases ht
      · cases ht
    · cases ht
  -- indexAddr
  · rename_i t x i hop
    split at ht
    · rename_i e hu
      simp only [Option.map_eq_some_iff] at ht
      obtain ⟨ti, hi, ht⟩ := ht
      cases ht
      obtain ⟨r1, r2, rfl, h1, h2⟩ := hv.two
      simp only [opA, Option.bind_eq_some_iff, Option.map_eq_some_iff, Prod.mk.injEq] at ha
      obtain ⟨j, h3, q, h4, rfl, rfl⟩ := ha
      obtain ⟨k, rfl⟩ := oInt_spec h3
      simp only [hop]
      rw [rint h2]
      exact (StepOk.val (ok_ia hM hu hi h1 h4)).weaken
    · rename_i len e hu
      simp only [Option.map_eq_some_iff] at ht
      obtain ⟨ti, hi, ht⟩ := ht
      cases ht
      obtain ⟨r1, r2, rfl, h1, h2⟩ := hv.two
      simp only [opA, Option.bind_eq_some_iff, Option.map_eq_some_iff, Prod.mk.injEq] at ha
      obtain ⟨j, h3, q, h4, rfl, rfl⟩ := ha
      obtain ⟨k, rfl⟩ := oInt_spec h3
      simp only [hop]
      rw [rint h2]
      exact (StepOk.val (ok_iaArr hM hu hi h1 h4)).weaken
    · cases ht
  -- index
  · rename_i t x i hop
    split at ht
    · rename_i hu
      cases ht
      obtain ⟨r1, r2, rfl, h1, h2⟩ := hv.two
      simp only [opA, Option.bind_eq_some_iff, Option.map_eq_some_iff, Prod.mk.injEq] at ha
      obtain ⟨s, h5, j, h3, q, h4, rfl, rfl⟩ := ha
      obtain rfl := oStr_spec h5
      obtain ⟨k, rfl⟩ := oInt_spec h3
      simp only [hop]
      rw [rint h2, rstr h1]
      exact (StepOk.val (ok_ixs hM hu h4)).weaken
    · rename_i len e hu
      split at ht
      · rename_i ti n hi hk
        cases ht
        obtain ⟨r1, r2, rfl, h1, h2⟩ := hv.two
        simp only [opA, Option.bind_eq_some_iff, Option.map_eq_some_iff, Prod.mk.injEq] at ha
        obtain ⟨j, h3, q, h4, rfl, rfl⟩ := ha
        obtain ⟨k, rfl⟩ := oInt_spec h3
        simp only [hop]
        rw [rint h2]
        exact (StepOk.val (ok_ixA hM hu hi hk h1 h4)).weaken
      · cases ht
    · cases ht
  -- extract
  · rename_i x i hop
    cases ht
    obtain ⟨r1, rfl, h1⟩ := hv.one
    simp only [opA, Option.map_eq_some_iff, Prod.mk.injEq] at ha
    obtain ⟨q, h4, rfl, rfl⟩ := ha
    simp only [hop]
    exact (StepOk.val (ok_ext hM h1 h4)).weaken
  -- load
  · rename_i t x hop
    simp only [Option.map_eq_some_iff] at ht
    obtain ⟨n, hk, ht⟩ := ht
    cases ht
    obtain ⟨r1, rfl, h1⟩ := hv.one
    simp only [opA, Option.map_eq_some_iff, Prod.mk.injEq] at ha
    obtain ⟨q, h4, rfl, rfl⟩ := ha
    simp only [hop]
    exact (StepOk.val (ok_ld hM hk h1 h4)).weaken
  -- store
  · rename_i t a x hop
    simp only [Option.map_eq_some_iff] at ht
    obtain ⟨ti, hi, ht⟩ := ht
    cases ht
    obtain ⟨r1, r2, rfl, h1, h2⟩ := hv.two
    simp only [opA, Option.map_eq_some_iff, Prod.mk.injEq] at ha
    obtain ⟨q, h4, rfl, rfl⟩ := ha
    simp only [hop]
    obtain ⟨ow', w', e1, e2, e3, e4⟩ := ok_st (P := P) hM hi h1 h2 h4
    exact ⟨.skip, undef, ow', w', by simp [e1], .inr ⟨rfl, rfl⟩, e2, e3, fun β d h _ => e4 β d h, .inr (.top _)⟩
  -- nilCheck
  · rename_i x hop
    cases ht
    obtain ⟨r1, rfl, h1⟩ := hv.one
    simp only [opA, Option.map_eq_some_iff, Prod.mk.injEq] at ha
    obtain ⟨q, h4, rfl, rfl⟩ := ha
    simp only [hop]
    obtain ⟨rfl, e⟩ := nil_same h1 h4
    refine StepOk.same hM (v := ρ x) ?_ h1
    generalize ρ x = v at *
    rcases e with ⟨a, rfl⟩ | ⟨f, a, b, rfl⟩ <;> rfl
  -- alloc
  · rename_i e hop
    split at ht
    · rename_i ti hi
      split at ht
      · rename_i z d hz hd
        have hnil : vals = [] := by
          have := hv.len
          have hx : xs = [] := by cases ht; rfl
          subst hx
          simpa using this
        subst hnil
        simp only [hop]
        obtain ⟨c1, c2⟩ := zeroCells_rep (w := w) (F := FX X ow S.toks) (ow := ow) (T := S.toks) z
        have hrun : (Instr.alloc e true (.tuple #[])).run P w = (do pure (Value.pointer (some (← newVar e z))) : Sem Value).run P w := by
          simp [Instr.alloc, zeroValue, typeInfo, hi, hz]
        split at ht
        · cases ht
          simp only [opA, Option.some.injEq, Prod.mk.injEq] at ha
          obtain ⟨rfl, rfl⟩ := ha
          exact StepOk.val (by rw [hrun]; exact ok_newMem hM c1 c2)
        · cases ht
          simp only [opA, Option.some.injEq, Prod.mk.injEq] at ha
          obtain ⟨rfl, rfl⟩ := ha
          exact StepOk.val (by rw [hrun]; exact ok_newLoc hM d c1 c2)
      · cases ht
    · cases ht
  -- box
  · rename_i e x hop
    split at ht
    · rename_i d hd
      have hx : xs = [x] := by cases ht; rfl
      subst hx
      obtain ⟨r1, rfl, h1⟩ := hv.one
      simp only [hop]
      have hrun : (Instr.box e (ρ x)).run P w = (do pure (Value.pointer (some (← newVar e (ρ x)))) : Sem Value).run P w := rfl
      split at ht
      · cases ht
        simp only [opA] at ha
        split at ha
        · rename_i hs
          cases ha
          obtain ⟨c1, c2⟩ := cells_rep (h1.f (by cases r1 <;> simp_all [RV.solid, RV.fc])) hs
          exact StepOk.val (by rw [hrun]; exact ok_newMem hM c1 c2)
        · cases ha
      · cases ht
        simp only [opA] at ha
        split at ha
        · rename_i hs
          cases ha
          obtain ⟨c1, c2⟩ := cells_rep (h1.f (by cases r1 <;> simp_all [RV.solid, RV.fc])) hs
          exact StepOk.val (by rw [hrun]; exact ok_newLoc hM d c1 c2)
        · cases ha
    · cases ht
  -- slice
  · rename_i t x lo hi' hop
    split at ht
    · rename_i hu
      cases ht
      have hlen := hv.len
      match vals, hlen, hv, ha with
      | q :: vs, _, hv, ha =>
      obtain ⟨h1, h2⟩ := Args.tail (by simpa using hv)
      simp only [opA, Option.bind_eq_some_iff, Option.map_eq_some_iff, Prod.mk.injEq] at ha
      obtain ⟨s, h5, ⟨l, h⟩, h6, ⟨l', h'⟩, h7, rfl, rfl⟩ := ha
      obtain rfl := oStr_spec h5
      obtain ⟨lo', hi2, rfl, rfl, g3, g4⟩ := cut_spec h2 h6
      simp only [hop]
      rw [rstr h1, g3, g4]
      exact (StepOk.val (ok_sls hM hu lo' hi2 h7)).weaken
    · rename_i e hu
      simp only [Option.map_eq_some_iff] at ht
      obtain ⟨ti, hi, ht⟩ := ht
      cases ht
      have hlen := hv.len
      match vals, hlen, hv, ha with
      | q :: vs, _, hv, ha =>
      obtain ⟨h1, h2⟩ := Args.tail (by simpa using hv)
      simp only [opA, Option.bind_eq_some_iff, Option.map_eq_some_iff, Prod.mk.injEq] at ha
      obtain ⟨⟨l, h⟩, h6, q', h7, rfl, rfl⟩ := ha
      obtain ⟨lo', hi2, rfl, rfl, g3, g4⟩ := cut_spec h2 h6
      simp only [hop]
      rw [g3, g4]
      exact (StepOk.val (ok_sll hM hu hi lo' hi2 h1 h7)).weaken
    · cases ht
  -- makeFunc
  · rename_i f a b hop
    cases ht
    simp only [opA] at ha
    split at ha
    · rename_i hc
      cases ha
      simp only [Bool.and_eq_true, List.all_eq_true, decide_eq_true_eq] at hc
      obtain ⟨hfc, hn1⟩ := hc
      have hlen := hv.len
      simp at hlen
      simp only [hop]
      refine (StepOk.val (ok_mkfn hM (by simp; omega) (by simp; omega) (fun k y v h1 h2 => ?_) (fun k y v h1 h2 => ?_))).weaken
      · rw [List.getElem?_take] at h1
        split at h1
        · rename_i hk
          simp only [Array.getElem?_map, Option.map_eq_some_iff] at h2
          obtain ⟨p, hp, rfl⟩ := h2
          exact (hv.at_ k p y (by rw [List.getElem?_append_left (by simpa using hk)]; simpa using hp) h1).f (hfc y (List.mem_of_getElem? h1))
        · cases h1
      · rw [List.getElem?_drop] at h1
        simp only [Array.getElem?_map, Option.map_eq_some_iff] at h2
        obtain ⟨p, hp, rfl⟩ := h2
        exact (hv.at_ (a.size + k) p y (by rw [List.getElem?_append_right (by simp)]; simpa using hp) h1).f (hfc y (List.mem_of_getElem? h1))
    · cases ha
  -- makeInterface
  · rename_i t x hop
    split at ht
    · cases ht
    · rename_i hif
      cases ht
      obtain ⟨r1, rfl, h1⟩ := hv.one
      simp only [opA] at ha
      split at ha
      · rename_i hf
        cases ha
        simp only [hop]
        obtain ⟨d, hd⟩ : ∃ d, P.underlying t = some d := by
          cases h : P.underlying t with
          | none => rw [h] at hif; exact absurd rfl hif
          | some d => exact ⟨d, rfl⟩
        exact (StepOk.val (ok_mkif hM hd (fun ms e => by rw [hd, e] at hif; exact absurd rfl hif) (h1.f hf))).weaken
      · cases ha
  -- makeSlice
  · rename_i t l c hop
    split at ht
    · rename_i e hu
      split at ht
      · rename_i ti hi
        split at ht
        · rename_i z hz
          split at ht
          · rename_i hc
            cases ht
            simp only [Bool.and_eq_true, bne_iff_ne, ne_eq, beq_iff_eq] at hc
            obtain ⟨⟨hzs, hz0⟩, hb0⟩ := hc
            obtain ⟨r1, r2, rfl, h1, h2⟩ := hv.two
            simp only [opA, Option.bind_eq_some_iff] at ha
            obtain ⟨n1, h3, n2, h4, h5⟩ := ha
            obtain ⟨k1, rfl⟩ := oInt_spec h3
            obtain ⟨k2, rfl⟩ := oInt_spec h4
            simp only [hop]
            rw [rint h1, rint h2]
            exact (StepOk.val (ok_mks hM hu hi hz hzs hz0 hb0 h5)).weaken
          · cases ht
        · cases ht
      · cases ht
    · cases ht
  -- len
  · rename_i args tys hop
    split at ht
    · rename_i x t hx hty
      have e1 : args = #[x] := by rw [← Array.toArray_toList (xs := args), hx]
      have e2 : tys = #[t] := by rw [← Array.toArray_toList (xs := tys), hty]
      subst e1
      subst e2
      split at ht
      · rename_i hu
        cases ht
        obtain ⟨r1, rfl, h1⟩ := hv.one
        simp only [opA, Option.map_eq_some_iff, Prod.mk.injEq] at ha
        obtain ⟨s, h4, rfl, rfl⟩ := ha
        obtain rfl := oStr_spec h4
        simp only [hop, resolve]
        have := ok_lens (P := P) (X := X) (ow := ow) (S := S) (w := w) (t := t) (ty := o.type) hM hu (s := s)
        have e : ρ x = .string ⟨⟨s⟩⟩ := rstr h1
        refine StepOk.weaken ?_
        simpa [invoke, builtin, e] using StepOk.val this
      · rename_i e hu
        cases ht
        obtain ⟨r1, rfl, h1⟩ := hv.one
        simp only [opA, Option.map_eq_some_iff, Prod.mk.injEq] at ha
        obtain ⟨n, h4, rfl, rfl⟩ := ha
        simp only [hop, resolve]
        have := ok_lenl (P := P) (ty := o.type) hM hu h1 h4
        refine StepOk.weaken ?_
        simpa [invoke, builtin] using StepOk.val this
      · cases ht
    · cases ht
  -- append
  · rename_i args tys hop
    split at ht
    · rename_i q x t u hx hty
      have e1 : args = #[q, x] := by rw [← Array.toArray_toList (xs := args), hx]
      have e2 : tys = #[t, u] := by rw [← Array.toArray_toList (xs := tys), hty]
      subst e1
      subst e2
      split at ht
      · rename_i e hu
        split at ht
        · rename_i ti hi
          split at ht
          · rename_i z hz
            split at ht
            · rename_i hc
              simp only [Bool.and_eq_true, bne_iff_ne, ne_eq, beq_iff_eq] at hc
              obtain ⟨⟨hzs, hz0⟩, hb0⟩ := hc
              split at ht
              · rename_i hus
                split at ht
                · rename_i h1s
                  cases ht
                  obtain ⟨r1, r2, rfl, h1, h2⟩ := hv.two
                  simp only [opA] at ha
                  split at ha
                  · have := ok_grow (P := P) (ty := o.type) hM hu (by rw [hus]; rfl) hi hz hzs hz0 hb0 h1 h2 ha
                    simp only [hop, resolve]
                    refine StepOk.weaken ?_
                    simpa [invoke, builtin] using StepOk.val this
                  simp only [Option.bind_eq_some_iff] at ha
                  obtain ⟨s, h4, h5⟩ := ha
                  obtain rfl := oStr_spec h4
                  have hz1 : ti.size = 1 := by simpa using h1s
                  have e : ρ x = .string ⟨⟨s⟩⟩ := rstr h2
                  obtain ⟨new, sr, hn⟩ := src_of_str (P := P) (w := w) (F := FX X ow S.toks) s
                  have hone : ∀ v ∈ new.toList, v.oneCell' = true := by
                    intro v hv'
                    obtain ⟨k, hk⟩ := List.getElem?_of_mem hv'
                    have hkl := (List.getElem?_eq_some_iff.1 hk).1
                    have hsz := sr.size
                    simp at hkl hsz
                    have hfl : (flat (s.map byteV))[k]? = some ((s.map byteV)[k]'(by simp; omega)) := by rw [flat_bytes]; exact List.getElem?_eq_getElem _
                    have := hn k _ v hfl (by simpa using hk)
                    simp only [List.getElem_map] at this
                    cases this
                    rfl
                  simp only [hop, resolve]
                  have := ok_app (ty := o.type) hM hu (by rw [hus]; rfl) hi hz hzs hz0 hb0 h1 (by rw [hz1]; exact sr) hn hone h5
                  refine StepOk.weaken ?_
                  simpa [invoke, builtin, e] using StepOk.val this
                · cases ht
              · rename_i e' hus
                cases ht
                obtain ⟨r1, r2, rfl, h1, h2⟩ := hv.two
                simp only [opA] at ha
                split at ha
                · have := ok_grow (P := P) (ty := o.type) hM hu (by rw [hus]; rfl) hi hz hzs hz0 hb0 h1 h2 ha
                  simp only [hop, resolve]
                  refine StepOk.weaken ?_
                  simpa [invoke, builtin] using StepOk.val this
                simp only [Option.bind_eq_some_iff] at ha
                obtain ⟨ys, h4, h5⟩ := ha
                have hun : uni ti.size ys = true := by
                  unfold appA at h5
                  split at h5
                  · assumption
                  · cases h5
                have hrep : Rep (FX X ow S.toks) w (.sl ys) (ρ x) := by
                  have hf : FRep (FX X ow S.toks) w ow S.toks r2 (ρ x) := h2.f (by unfold srcOf at h4; cases r2 <;> simp_all [RV.fc])
                  unfold srcOf at h4
                  split at h4
                  · cases h4; cases hf with | p hf => exact hf
                  · cases h4; cases hf with | own l t v a b c => exact b
                  · cases h4
                    generalize ρ x = v at *
                    cases hf with | nsl _ a _ => exact .sl [] a 0 1 (fun _ => undef) (by simp) (by simp) (by simp) (.inl rfl) (by simp [flat])
                  · cases h4
                obtain ⟨new, sr, hn⟩ := src_of_rep (P := P) hz0 (uni_spec hun) hrep
                have hone : ∀ v ∈ new.toList, v.oneCell' = true := by
                  intro v hv'
                  obtain ⟨k, hk⟩ := List.getElem?_of_mem hv'
                  have hkl := (List.getElem?_eq_some_iff.1 hk).1
                  have hsz := sr.size
                  simp only [Array.length_toList] at hkl
                  have hfl := flat_length (uni_spec hun)
                  have hg : (flat ys)[k]? = some ((flat ys)[k]'(by omega)) := List.getElem?_eq_getElem _
                  exact pcell_one (hn k _ v hg (by simpa using hk)) (uni_cell hun _ (List.getElem_mem _))
                simp only [hop, resolve]
                have := ok_app (ty := o.type) hM hu (by rw [hus]; rfl) hi hz hzs hz0 hb0 h1 sr hn hone h5
                refine StepOk.weaken ?_
                simpa [invoke, builtin] using StepOk.val this
              · cases ht
            · cases ht
          · cases ht
        · cases ht
      · cases ht
    · cases ht
  · cases ht
end
end Go.Ag
/- An abstract machine for Go functions: the further operations do as their function says. -/
namespace Go.Ag
open Go
set_option linter.unusedVariables false
set_option linter.unusedSimpArgs false
section
variable {P : Program} {X : Cells} {ow : Ow} {S : Mem} {w : World}

theorem opX_s2b {x r : RV} {S' : Mem} (h : opX .s2b [x] S = some (r, S')) : ∃ s, x = .p (.str s) ∧ r = .p (.sl (s.map byteV)) ∧ S' = S := by
  cases x with
  | p v => cases v <;> simp [opX] at h; exact ⟨_, rfl, h.1.symm, h.2.symm⟩
  | _ => simp [opX] at h
theorem opX_sid {x r : RV} {S' : Mem} (h : opX .sid [x] S = some (r, S')) : ∃ s, x = .p (.str s) ∧ r = .p (.str s) ∧ S' = S := by
  cases x with
  | p v => cases v <;> simp [opX] at h; exact ⟨_, rfl, h.1.symm, h.2.symm⟩
  | _ => simp [opX] at h

theorem x_sound (hM : MRel X ow S w) {o : Oper} {io : XOp} {xs : List Operand} {ρ : Operand → Value} {vals : List RV} {r : RV} {S' : Mem}
    (ht : trX P o = some (io, xs)) (hv : Args (FX X ow S.toks) w ow S.toks ρ xs vals) (ha : opX io vals S = some (r, S')) : StepOk X ow S w ((execOp ρ o).run P w) r S' none := by
  unfold trX at ht
  unfold execOp
  split at ht
  -- min
  · rename_i args tys hop
    split at ht
    · rename_i a b hx
      have e1 : args = #[a, b] := by rw [← Array.toArray_toList (xs := args), hx]
      subst e1
      cases ht
      obtain ⟨r1, r2, rfl, h1, h2⟩ := hv.two
      simp only [opX, Option.map_eq_some_iff, Prod.mk.injEq] at ha
      obtain ⟨q, h4, rfl, rfl⟩ := ha
      simp only [hop, resolve]
      have := ok_mnx (P := P) (ts := tys) (ty := o.type) hM h1 h2 h4
      simpa [invoke, builtin] using StepOk.val this
    · cases ht
  -- max
  · rename_i args tys hop
    split at ht
    · rename_i a b hx
      have e1 : args = #[a, b] := by rw [← Array.toArray_toList (xs := args), hx]
      subst e1
      cases ht
      obtain ⟨r1, r2, rfl, h1, h2⟩ := hv.two
      simp only [opX, Option.map_eq_some_iff, Prod.mk.injEq] at ha
      obtain ⟨q, h4, rfl, rfl⟩ := ha
      simp only [hop, resolve]
      have := ok_mnx (P := P) (ts := tys) (ty := o.type) hM h1 h2 h4
      simpa [invoke, builtin] using StepOk.val this
    · cases ht
  -- unsafe.SliceData
  · rename_i args tys hop
    split at ht
    · rename_i a hx
      have e1 : args = #[a] := by rw [← Array.toArray_toList (xs := args), hx]
      subst e1
      cases ht
      obtain ⟨r1, rfl, h1⟩ := hv.one
      simp only [opX, Option.map_eq_some_iff, Prod.mk.injEq] at ha
      obtain ⟨q, h4, rfl, rfl⟩ := ha
      simp only [hop, resolve]
      have := ok_usd (P := P) (ts := tys) (ty := o.type) hM h1 h4
      simpa [invoke, builtin] using StepOk.val this
    · cases ht
  -- unsafe.String
  · rename_i args tys hop
    split at ht
    · rename_i a n pt it hx hty
      have e1 : args = #[a, n] := by rw [← Array.toArray_toList (xs := args), hx]
      have e2 : tys = #[pt, it] := by rw [← Array.toArray_toList (xs := tys), hty]
      subst e1
      subst e2
      split at ht
      · rename_i e hp
        split at ht
        · rename_i hc
          cases ht
          obtain ⟨r1, r2, rfl, h1, h2⟩ := hv.two
          simp only [opX, Option.map_eq_some_iff, Prod.mk.injEq] at ha
          obtain ⟨q, h4, rfl, rfl⟩ := ha
          simp only [hop, resolve]
          have := ok_ust (P := P) (it := it) (ty := o.type) hM hp (by simpa using hc) h1 h2 h4
          simpa [invoke, builtin] using StepOk.val this
        · cases ht
      · cases ht
    · cases ht
  -- pointers converted
  · rename_i s d x hop
    split at ht
    · rename_i t hs hd
      split at ht
      · rename_i j hj
        split at ht
        · rename_i hz
          cases ht
          obtain ⟨r1, rfl, h1⟩ := hv.one
          simp only [opX, Option.map_eq_some_iff, Prod.mk.injEq] at ha
          obtain ⟨q, h4, rfl, rfl⟩ := ha
          simp only [hop]
          exact StepOk.val (ok_toU hM hs hd hj (by simpa using hz) h1 h4)
        · cases ht
      · cases ht
    · rename_i u hs hd
      split at ht
      · rename_i j hj
        split at ht
        · rename_i hz
          cases ht
          obtain ⟨r1, rfl, h1⟩ := hv.one
          simp only [opX, Option.map_eq_some_iff, Prod.mk.injEq] at ha
          obtain ⟨q, h4, rfl, rfl⟩ := ha
          simp only [hop]
          exact StepOk.val (ok_frU hM hs hd hj hz h1 h4)
        · cases ht
      · cases ht
    · rename_i e hs hd
      split at ht
      · rename_i he
        cases ht
        obtain ⟨r1, rfl, h1⟩ := hv.one
        obtain ⟨s, rfl, rfl, rfl⟩ := opX_s2b ha
        simp only [hop]
        rw [rstr h1]
        exact StepOk.val (ok_s2b hM hs hd he s)
      · cases ht
    · rename_i hs hd
      cases ht
      obtain ⟨r1, rfl, h1⟩ := hv.one
      obtain ⟨s, rfl, rfl, rfl⟩ := opX_sid ha
      simp only [hop]
      rw [rstr h1]
      exact StepOk.val (ok_sid hM hs hd s)
    · cases ht
  -- an empty literal
  · rename_i t parts hop
    split at ht
    · rename_i e hu
      split at ht
      · rename_i ti hi
        split at ht
        · rename_i hz
          cases ht
          have hnil : vals = [] := by have := hv.len; simpa using this
          subst hnil
          simp only [opX, Option.some.injEq, Prod.mk.injEq] at ha
          obtain ⟨rfl, rfl⟩ := ha
          simp only [hop]
          have hp : parts = #[] := by
            have : parts.size = 0 := by simpa using hz
            exact Array.eq_empty_of_size_eq_zero this
          subst hp
          obtain ⟨m1, m2⟩ := hM.pushPlain (.cells #[] e)
          refine StepOk.val ⟨.slice (some ⟨w.heap.size, 0, none⟩) 0 0, ow, w.alloc (.cells #[] e), ?_, m1, m2, fun _ _ h _ => h, .inr (.nsl _ _ (by simp))⟩
          simp [Instr.buildSlice, run_underlying hu, sizeOf, typeInfo, hi, Instr.fill, newRow, show (Array.map (fun x => (default : Value)) (Array.range 0)) = #[] by simp [Array.range]]
        · cases ht
      · cases ht
    · cases ht
  -- a literal in memory
  · rename_i t len parts _ hop
    split at ht
    · rename_i e hu
      split at ht
      · rename_i ti hi
        split at ht
        · rename_i hc
          simp only [Bool.and_eq_true, bne_iff_ne, ne_eq, beq_iff_eq, decide_eq_true_eq, Option.isSome_iff_exists] at hc
          obtain ⟨⟨⟨⟨⟨⟨z, hz⟩, hz0⟩, hl0⟩, hsm⟩, hpl⟩, hpr⟩ := hc
          have hvl := hv.len
          cases ht
          simp only [List.length_map, hpl] at hvl
          simp only [hop]
          rw [parts_zip parts ρ hpl hpr]
          simp only [opX] at ha
          split at ha
          · rename_i hall
            cases ha
            simp only [List.all_eq_true, Bool.and_eq_true, beq_iff_eq] at hall
            have hrep : ∀ (k : Nat) (q : RV) (v : Value), vals[k]? = some q → (parts.toList.map fun x => ρ x.2)[k]? = some v → FRep (FX X ow S.toks) w ow S.toks q v := by
              intro k q v h1 h2
              simp only [List.getElem?_map, Option.map_eq_some_iff] at h2
              obtain ⟨p, hp, rfl⟩ := h2
              refine (hv.at_ k p.2 q (by simp [hp]) h1).f ?_
              have := (hall q (List.mem_of_getElem? h1)).1
              cases q <;> first | rfl | (simp [RV.solid] at this)
            have hvs : (parts.toList.map fun x => ρ x.2).length = len := by rw [List.length_map]; exact hpl
            generalize (parts.toList.map fun x => ρ x.2) = us at hrep hvs ⊢
            have key := ok_bslm (P := P) hM hu hi hz hz0 hl0 hsm hvl hvs hrep hall
            exact StepOk.val key
          · cases ha
        · cases ht
      · cases ht
    · cases ht
  · cases ht

/-- A function without code. -/
theorem ext_sound (hM : MRel X ow S w) {f : FuncId} {io : XOp} (he : extOp P f = some io) {xs : List Operand} {ρ : Operand → Value} {vals : List RV} {r : RV} {S' : Mem}
    (hv : Args (FX X ow S.toks) w ow S.toks ρ xs vals) (ha : opX io vals S = some (r, S')) : StepOk X ow S w ((callFunc f (xs.map ρ).toArray).run P w) r S' none := by
  unfold extOp at he
  split at he
  · rename_i fn hf
    split at he
    · rename_i hb
      simp only [Bool.and_eq_true, beq_iff_eq] at hb
      obtain ⟨hb, ho⟩ := hb
      have run : ∀ {e : Array Value → Sem Value} {name : String}, fn.name = name → (name == "runtime.NumGoroutine") = false → Extern.find fn = some e ∧ Extern.findNext fn = none →
          (callFunc f (xs.map ρ).toArray).run P w = ((e (xs.map ρ).toArray).run P w).andThen fun v w' => .ok (.value v) w' := by
        intro e name hn hg h
        exact run_callFunc_extern hf (by rw [hn]; exact hg) hb h.2 h.1 _ _
      have two : ∀ {v1 v2 : RV}, vals = [v1, v2] → ∃ x y, xs = [x, y] ∧ RRep (FX X ow S.toks) w ow S.toks v1 (ρ x) ∧ RRep (FX X ow S.toks) w ow S.toks v2 (ρ y) := by
        intro v1 v2 h
        subst h
        have hl := hv.len
        match xs, hl, hv with
        | [x, y], _, hv => exact ⟨x, y, rfl, hv.at_ 0 x v1 rfl rfl, hv.at_ 1 y v2 rfl rfl⟩
      split at he
      · rename_i hn
        cases he
        have hn := eq_of_beq hn
        unfold opX at ha
        split at ha
        all_goals first
          | (rename_i heq; cases heq; done)
          | skip
        · rename_i s c _
          cases ha
          obtain ⟨x, y, rfl, h1, h2⟩ := two rfl
          have e1 := rstr h1
          have e2 := rint h2
          refine StepOk.same hM (v := .int .i64 (Go.Lib.indexByte s c.toNat.toUInt8)) ?_ (.inr (.p (.int _ _)))
          rw [run hn rfl (find_ib fn hn ho)]
          simp only [List.map_cons, List.map_nil, e1, e2]
          rw [Go.Lib.run_indexByteString]
          rfl
        · cases ha
      · split at he
        · rename_i hn
          cases he
          have hn := eq_of_beq hn
          unfold opX at ha
          split at ha
          all_goals first
            | (rename_i heq; cases heq; done)
            | skip
          · rename_i s c _
            cases ha
            obtain ⟨x, y, rfl, h1, h2⟩ := two rfl
            have e1 := rstr h1
            have e2 := rint h2
            refine StepOk.same hM (v := .int .i64 (Go.Lib.countByte s c.toNat.toUInt8 : Nat)) ?_ (.inr (.p (.int _ _)))
            rw [run hn rfl (find_cnt fn hn ho)]
            simp only [List.map_cons, List.map_nil, e1, e2]
            rw [Go.Lib.run_countString]
            rfl
          · cases ha
        · split at he
          · rename_i hn
            cases he
            have hn := eq_of_beq hn
            unfold opX at ha
            split at ha
            all_goals first
              | (rename_i heq; cases heq; done)
              | skip
            · rename_i a b _
              cases ha
              obtain ⟨x, y, rfl, h1, h2⟩ := two rfl
              have e1 := rstr h1
              have e2 := rstr h2
              refine StepOk.same hM (v := .int .i64 (Go.Lib.compareBytes a b)) ?_ (.inr (.p (.int _ _)))
              rw [run hn rfl (find_cmp fn hn ho)]
              simp only [List.map_cons, List.map_nil, e1, e2]
              rw [Go.Lib.run_compareString]
              rfl
            · cases ha
          · split at he
            · rename_i hn
              cases he
              have hn := eq_of_beq hn
              unfold opX at ha
              split at ha
              all_goals first
                | (rename_i heq; cases heq; done)
                | skip
              · rename_i x _
                split at ha
                · cases ha
                  have hl := hv.len
                  match xs, hl, hv with
                  | [y], _, hv =>
                    refine StepOk.same hM (v := ρ y) ?_ (hv.at_ 0 y _ rfl rfl)
                    rw [run hn rfl (find_id fn hn ho)]
                    rfl
                · cases ha
              · cases ha
            · cases he
    · cases he
  · cases he
end
end Go.Ag
/- An abstract machine for Go functions: rows that grow, clear, copy, walks over strings do as their function says. -/
namespace Go.Ag
open Go
set_option linter.unusedVariables false
set_option linter.unusedSimpArgs false
section
variable {P : Program} {X : Cells} {ow : Ow} {S : Mem} {w : World}

theorem isZero_spec {x : Operand} (h : isZero x = true) : x = .const (.int .i64 0) := by
  unfold isZero at h
  split at h
  · rfl
  · cases h

theorem y_sound (hM : MRel X ow S w) {mems : List Nat} {o : Oper} {io : YOp} {xs : List Operand} {ρ : Operand → Value} (hρ : ∀ v, ρ (.const v) = v) {vals : List RV} {r : RV} {S' : Mem}
    (ht : trY P mems o = some (io, xs)) (hv : Args (FX X ow S.toks) w ow S.toks ρ xs vals) (ha : opY io vals S = some (r, S')) : StepOk X ow S w ((execOp ρ o).run P w) r S' none := by
  unfold trY at ht
  unfold execOp
  split at ht
  -- append
  · rename_i args tys hop
    split at ht
    · rename_i a b t u hx hty
      have e1 : args = #[a, b] := by rw [← Array.toArray_toList (xs := args), hx]
      have e2 : tys = #[t, u] := by rw [← Array.toArray_toList (xs := tys), hty]
      subst e1
      subst e2
      split at ht
      · rename_i hc
        simp only [Bool.and_eq_true] at hc
        split at ht
        · rename_i e ti z he
          obtain ⟨g1, g2, g3, g4, g5, g6⟩ := elemOf_spec he
          cases ht
          obtain ⟨r1, r2, rfl, h1, h2⟩ := hv.two
          simp only [opY] at ha
          have := ok_grow (P := P) (ty := o.type) hM g1 hc.2 g2 g3 g4 g5 g6 h1 h2 ha
          simp only [hop, resolve]
          simpa [invoke, builtin] using StepOk.val this
        · cases ht
      · cases ht
    · cases ht
  -- clear
  · rename_i args tys hop
    split at ht
    · rename_i a t hx hty
      have e1 : args = #[a] := by rw [← Array.toArray_toList (xs := args), hx]
      have e2 : tys = #[t] := by rw [← Array.toArray_toList (xs := tys), hty]
      subst e1
      subst e2
      split at ht
      · rename_i e ti z he
        obtain ⟨g1, g2, g3, g4, g5, g6⟩ := elemOf_spec he
        cases ht
        obtain ⟨r1, rfl, h1⟩ := hv.one
        simp only [opY] at ha
        have := ok_clr (P := P) (ty := o.type) hM g1 g2 g3 g4 g5 h1 ha
        simp only [hop, resolve]
        simpa [invoke, builtin] using StepOk.val this
      · cases ht
    · cases ht
  -- copy
  · rename_i args tys hop
    split at ht
    · rename_i a b t u hx hty
      have e1 : args = #[a, b] := by rw [← Array.toArray_toList (xs := args), hx]
      have e2 : tys = #[t, u] := by rw [← Array.toArray_toList (xs := tys), hty]
      subst e1
      subst e2
      split at ht
      · rename_i e ti z he
        obtain ⟨g1, g2, g3, g4, g5, g6⟩ := elemOf_spec he
        cases ht
        obtain ⟨r1, r2, rfl, h1, h2⟩ := hv.two
        simp only [opY] at ha
        have := ok_cpy (P := P) (ty := o.type) (u := u) hM g1 g2 g5 h1 h2 ha
        simp only [hop, resolve]
        simpa [invoke, builtin] using StepOk.val this
      · cases ht
    · cases ht
  -- range
  · rename_i t x hop
    split at ht
    · rename_i hu
      cases ht
      obtain ⟨r1, rfl, h1⟩ := hv.one
      replace ha : rngA r1 S = some (r, S') := ha
      simp only [hop]
      exact StepOk.val (ok_rng (P := P) hM hu h1 ha)
    · cases ht
  -- next
  · rename_i hop
    cases ht
    obtain ⟨r1, rfl, h1⟩ := hv.one
    replace ha : nxtA r1 S = some (r, S') := ha
    simp only [hop]
    exact StepOk.val (ok_nxt (P := P) hM h1 ha)
  -- an empty cut
  · rename_i t x lo h m hop
    split at ht
    · rename_i q hc he
      unfold zeroCut at hc
      simp only [Bool.and_eq_true] at hc
      obtain ⟨⟨c1, c2⟩, c3⟩ := hc
      have z1 := isZero_spec c1
      have z2 := isZero_spec c2
      subst z1
      subst z2
      obtain ⟨e, ti, z⟩ := q
      obtain ⟨g1, g2, g3, g4, g5, g6⟩ := elemOf_spec he
      cases ht
      obtain ⟨r1, rfl, h1⟩ := hv.one
      simp only [opY] at ha
      split at ha
      · rename_i n hn
        cases ha
        have hlo : lo.map ρ = none ∨ lo.map ρ = some (.int .i64 0) := by
          cases lo with
          | none => exact .inl rfl
          | some l =>
            have := isZero_spec c3
            subst this
            right
            simp [hρ]
        have := ok_s00 (P := P) hM g1 g2 h1 hn hlo
        simp only [hop, Option.map_some, hρ]
        exact StepOk.val this
      · cases ha
    · cases ht
  -- == of structures
  · rename_i t x y yt hop
    split at ht
    · rename_i ks hk
      cases ht
      obtain ⟨r1, r2, rfl, h1, h2⟩ := hv.two
      simp only [opY, Option.map_eq_some_iff, Prod.mk.injEq] at ha
      obtain ⟨q, h4, rfl, rfl⟩ := ha
      simp only [hop]
      exact StepOk.val (ok_eqs (P := P) (neg := false) hM rfl hk h1 h2 h4)
    · cases ht
  · rename_i t x y yt hop
    split at ht
    · rename_i ks hk
      cases ht
      obtain ⟨r1, r2, rfl, h1, h2⟩ := hv.two
      simp only [opY, Option.map_eq_some_iff, Prod.mk.injEq] at ha
      obtain ⟨q, h4, rfl, rfl⟩ := ha
      simp only [hop]
      exact StepOk.val (ok_eqs (P := P) (neg := true) hM rfl hk h1 h2 h4)
    · cases ht
  · cases ht
end
end Go.Ag
/- An abstract machine for Go functions: values compared, values weakened. -/
namespace Go.Ag
open Go
set_option linter.unusedVariables false
set_option linter.unusedSimpArgs false

def eqL {α : Type} (f : α → α → Bool) : List α → List α → Bool
  | [], [] => true
  | x :: xs, y :: ys => f x y && eqL f xs ys
  | _, _ => false
theorem eqL_spec {α : Type} {f : α → α → Bool} (hf : ∀ x y, f x y = true → x = y) : ∀ {l m : List α}, eqL f l m = true → l = m
  | [], [], _ => rfl
  | x :: xs, y :: ys, h => by
    simp only [eqL, Bool.and_eq_true] at h
    rw [hf _ _ h.1, eqL_spec hf h.2]
  | [], _ :: _, h => by cases h
  | _ :: _, [], h => by cases h

def PV.eqn : Nat → PV → PV → Bool
  | 0, _, _ => false
  | n + 1, a, b => match a, b with
    | .bool x, .bool y => x == y
    | .int k x, .int k' y => decide (k = k') && decide (x = y)
    | .str s, .str t => decide (s = t)
    | .sl l, .sl m => eqL (PV.eqn n) l m
    | .agg l, .agg m => eqL (PV.eqn n) l m
    | .tup l, .tup m => eqL (PV.eqn n) l m
    | .ro l, .ro m => eqL (PV.eqn n) l m
    | .nilp, .nilp | .nilm, .nilm | .nilf, .nilf | .nili, .nili | .ab, .ab | .top, .top => true
    | .fn f x y, .fn g z u => decide (f = g) && eqL (PV.eqn n) x z && eqL (PV.eqn n) y u
    | .iface t x, .iface u y => decide (t = u) && PV.eqn n x y
    | _, _ => false
theorem PV.eqn_spec : ∀ (n : Nat) (a b : PV), PV.eqn n a b = true → a = b
  | 0, a, b, h => by cases h
  | n + 1, a, b, h => by
    have ih := PV.eqn_spec n
    cases a <;> cases b <;> simp only [PV.eqn, Bool.and_eq_true, decide_eq_true_eq, beq_iff_eq, reduceCtorEq, Bool.false_eq_true] at h
    all_goals first
      | rfl
      | (subst h; rfl)
      | (obtain ⟨rfl, rfl⟩ := h; rfl)
      | (rw [eqL_spec ih h]; done)
      | (obtain ⟨⟨rfl, h2⟩, h3⟩ := h; rw [eqL_spec ih h2, eqL_spec ih h3])
      | (obtain ⟨rfl, h2⟩ := h; rw [ih _ _ h2])
def RV.eqn : Nat → RV → RV → Bool
  | 0, _, _ => false
  | n + 1, a, b => match a, b with
    | .p x, .p y => PV.eqn n x y
    | .nsl x, .nsl y => x == y
    | .own l t, .own m u => decide (t = u) && eqL (PV.eqn n) l m
    | .ptr b o, .ptr b' o' => decide (b = b') && decide (o = o')
    | .rs b o l z, .rs b' o' l' z' => decide (b = b') && decide (o = o') && decide (l = l') && decide (z = z')
    | .od l t, .od m u => decide (t = u) && eqL (PV.eqn n) l m
    | .up, .up | .top, .top => true
    | .mp b, .mp b' => decide (b = b')
    | .la d o, .la d' o' => decide (d = d') && decide (o = o')
    | .agg l, .agg m => eqL (RV.eqn n) l m
    | .tup l, .tup m => eqL (RV.eqn n) l m
    | .fn f x y, .fn g z u => decide (f = g) && eqL (RV.eqn n) x z && eqL (RV.eqn n) y u
    | .iface t x, .iface u y => decide (t = u) && RV.eqn n x y
    | _, _ => false
theorem RV.eqn_spec : ∀ (n : Nat) (a b : RV), RV.eqn n a b = true → a = b
  | 0, a, b, h => by cases h
  | n + 1, a, b, h => by
    have ih := RV.eqn_spec n
    have ip := PV.eqn_spec n
    cases a <;> cases b <;> simp only [RV.eqn, Bool.and_eq_true, decide_eq_true_eq, beq_iff_eq, reduceCtorEq, Bool.false_eq_true] at h
    all_goals first
      | rfl
      | (subst h; rfl)
      | (rw [ip _ _ h]; done)
      | (obtain ⟨rfl, rfl⟩ := h; rfl)
      | (obtain ⟨⟨⟨rfl, rfl⟩, rfl⟩, rfl⟩ := h; rfl)
      | (rw [eqL_spec ih h]; done)
      | (obtain ⟨rfl, h2⟩ := h; rw [eqL_spec ip h2])
      | (obtain ⟨⟨rfl, h2⟩, h3⟩ := h; rw [eqL_spec ih h2, eqL_spec ih h3])
      | (obtain ⟨rfl, h2⟩ := h; rw [ih _ _ h2])
def RV.eqb (a b : RV) : Bool := RV.eqn 16 a b
theorem RV.eqb_spec {a b : RV} (h : RV.eqb a b = true) : a = b := RV.eqn_spec 16 a b h
def Blk.eqb : Blk → Blk → Bool
  | .cells t l, .cells u m => decide (t = u) && eqL RV.eqb l m
  | .iter s p, .iter t q => decide (s = t) && decide (p = q)
  | .dead, .dead => true
  | _, _ => false
theorem Blk.eqb_spec : ∀ (a b : Blk), Blk.eqb a b = true → a = b := by
  intro a b h
  cases a <;> cases b <;> simp only [Blk.eqb, Bool.and_eq_true, decide_eq_true_eq, reduceCtorEq, Bool.false_eq_true] at h
  · obtain ⟨rfl, h2⟩ := h
    rw [eqL_spec (fun _ _ => RV.eqb_spec) h2]
  · obtain ⟨rfl, rfl⟩ := h; rfl
  · rfl
def locEqb (a b : Nat × List RV) : Bool := decide (a.1 = b.1) && eqL RV.eqb a.2 b.2
def Mem.eqb (a b : Mem) : Bool := eqL locEqb a.loc b.loc && eqL Blk.eqb a.mem b.mem && decide (a.toks = b.toks)
theorem Mem.eqb_spec {a b : Mem} (h : Mem.eqb a b = true) : a = b := by
  cases a
  cases b
  simp only [Mem.eqb, Bool.and_eq_true, decide_eq_true_eq] at h
  obtain ⟨⟨h1, h2⟩, h3⟩ := h
  have e1 := eqL_spec (fun x y hxy => by
    simp only [locEqb, Bool.and_eq_true, decide_eq_true_eq] at hxy
    exact Prod.ext hxy.1 (eqL_spec (fun _ _ => RV.eqb_spec) hxy.2)) h1
  have e2 := eqL_spec Blk.eqb_spec h2
  subst e1
  subst e2
  subst h3
  rfl

/-! ### Less is said -/
def RV.wk (a b : RV) : Prop := b = a ∨ b = .top ∨ (∃ x, a = .nsl x ∧ b = .nsl false)
def joinV (a b : RV) : RV :=
  match a, b with
  | .nsl x, .nsl y => if x == y then .nsl x else .nsl false
  | a, b => if RV.eqb a b then a else .top
theorem joinV_spec (a b : RV) : RV.wk a (joinV a b) ∧ RV.wk b (joinV a b) := by
  have gen : RV.wk a (if RV.eqb a b then a else .top) ∧ RV.wk b (if RV.eqb a b then a else .top) := by
    split
    · rename_i h
      obtain rfl := RV.eqb_spec h
      exact ⟨.inl rfl, .inl rfl⟩
    · exact ⟨.inr (.inl rfl), .inr (.inl rfl)⟩
  unfold joinV
  split
  · rename_i x y
    split
    · rename_i h
      have : x = y := by simpa using h
      subst this
      exact ⟨.inl rfl, .inl rfl⟩
    · exact ⟨.inr (.inr ⟨x, rfl, rfl⟩), .inr (.inr ⟨y, rfl, rfl⟩)⟩
  · exact gen
def Env.wk (e e' : Env) : Prop := ∀ t, RV.wk (e.get t) (e'.get t)
def joinE (e1 e2 : Env) : Env := e1.map fun x => (x.1, joinV (e1.get x.1) (e2.get x.1))
theorem get_map (f : Nat → RV) : ∀ (e : Env) (t : Nat), Env.get (e.map fun x => (x.1, f x.1)) t = f t ∨ Env.get (e.map fun x => (x.1, f x.1)) t = .top
  | [], t => .inr rfl
  | (k, v) :: r, t => by
    simp only [List.map_cons, Env.get_nil, Env.get_cons]
    split
    · rename_i h; subst h; exact .inl rfl
    · exact get_map f r t
theorem joinE_spec (e1 e2 : Env) : Env.wk e1 (joinE e1 e2) ∧ Env.wk e2 (joinE e1 e2) := by
  refine ⟨fun t => ?_, fun t => ?_⟩ <;>
    rcases get_map (fun t => joinV (e1.get t) (e2.get t)) e1 t with h | h <;> unfold joinE <;> rw [h]
  · exact (joinV_spec _ _).1
  · exact .inr (.inl rfl)
  · exact (joinV_spec _ _).2
  · exact .inr (.inl rfl)
theorem RRep.wk {F w ow T} {a b : RV} {v : Value} (h : RRep F w ow T a v) (k : RV.wk a b) : RRep F w ow T b v := by
  rcases k with rfl | rfl | ⟨x, rfl, rfl⟩
  · exact h
  · exact .inr (.top v)
  · rcases h with ⟨d, off, β, h, _⟩ | h
    · cases h
    · cases h with | nsl _ a h => exact .inr (.nsl false a (by simp))
end Go.Ag
/- An abstract machine for Go functions, fourteenth part: code, calls, contracts. -/
namespace Go.Ag
open Go
set_option linter.unusedVariables false
set_option linter.unusedSimpArgs false

inductive IAct where
  | op (o : IOp)
  | call (f : FuncId)
  | callP (f : FuncId)
  | callv
  deriving Inhabited
structure IOper where
  dst : Option Nat
  act : IAct
  args : List Xp
  guard : Option (Nat × Bool)
  deriving Inhabited
inductive IR where
  | skip
  | ops (l : List IOper) (keep : Option (List Nat))
  | opsD (l : List IOper) (un : List (Nat × Nat)) (keep : Option (List Nat))
  | seq (a b : IR)
  | cond (x : Xp) (a b : IR)
  | block (id : Nat) (c : IR)
  | loop (keep : Option (List Nat)) (c : IR)
  | exit (id : Nat)
  | ret
  | no
  deriving Inhabited
inductive Ex where
  | normal
  | exit (id : Nat)
  | ret
  deriving DecidableEq, Inhabited

/-! ### What is forgotten -/
def Env.keepV (e : Env) (l : List Nat) : Env := l.map fun t => (t, match e.get t with | .la d o => if l.contains d then .la d o else .top | v => v)
def Mem.keepV (S : Mem) (l : List Nat) : Mem := { S with loc := S.loc.filter fun x => l.contains x.1 }
def keepE (k : Option (List Nat)) (e : Env) : Env := match k with | some l => e.keepV l | none => e
def keepS (k : Option (List Nat)) (S : Mem) : Mem := match k with | some l => S.keepV l | none => S

/-! ### Contracts -/
def Enters (P : Program) (f : FuncId) : Prop := ∀ args w, (callFunc f args).run P w = .ok (.enter f args) w
def noLoc (ow : Ow) : Prop := ∀ β d, ow β ≠ some (.loc d)
/-- Called with these values in this memory the function returns, and of what it returns and of the memory then Q holds. -/
def SC (P : Program) (f : FuncId) (args : List RV) (S : Mem) (Q : RV → Mem → Prop) : Prop :=
  Enters P f ∧ ∀ (X : Cells) (ow : Ow) (w : World) (vs : Array Value), MRel X ow { S with loc := [] } w → noLoc ow → vs.size = args.length →
    (∀ (k : Nat) r v, args[k]? = some r → vs[k]? = some v → FRep (FX X ow S.toks) w ow S.toks r v) →
    Calls P f vs w fun e w' => ∃ v r S' ow', e = .returned v ∧ Q r S' ∧ S'.loc = [] ∧ MRel X ow' S' w' ∧ noLoc ow' ∧ FRep (FX X ow' S'.toks) w' ow' S'.toks r v ∧ Tr X ow S.toks w ow' S'.toks w'
def mem0 : Mem := ⟨[], [], []⟩
/-- A function of values alone. -/
def PFun (P : Program) (f : FuncId) (args : List PV) (r : PV) : Prop := SC P f (args.map .p) mem0 fun q S' => q.still S' = some r

/-- The call in the midst of a frame. -/
def ACall (P : Program) (f : FuncId) (args : List RV) (S : Mem) (K : RV → Mem → Prop) : Prop :=
  Enters P f ∧ ∀ (X : Cells) (ow : Ow) (w : World) (vs : Array Value), MRel X ow S w → vs.size = args.length →
    (∀ (k : Nat) r v, args[k]? = some r → vs[k]? = some v → FRep (FX X ow S.toks) w ow S.toks r v) →
    Calls P f vs w fun e w' => ∃ v r S' ow', e = .returned v ∧ K r S' ∧ MRel X ow' S' w' ∧ FRep (FX X ow' S'.toks) w' ow' S'.toks r v ∧ Tr X ow S.toks w ow' S'.toks w' ∧
      ∀ β d, ow β = some (.loc d) → ow' β = some (.loc d)

theorem SC.mono {P f args S Q Q'} (h : SC P f args S Q) (hq : ∀ r S', Q r S' → Q' r S') : SC P f args S Q' :=
  ⟨h.1, fun X ow w vs a b c d => (h.2 X ow w vs a b c d).mono fun e w' ⟨v, r, S', ow', h1, h2, h3⟩ => ⟨v, r, S', ow', h1, hq _ _ h2, h3⟩⟩
theorem ACall.mono {P f args S K K'} (h : ACall P f args S K) (hq : ∀ r S', K r S' → K' r S') : ACall P f args S K' :=
  ⟨h.1, fun X ow w vs a b c => (h.2 X ow w vs a b c).mono fun e w' ⟨v, r, S', ow', h1, h2, h3⟩ => ⟨v, r, S', ow', h1, hq _ _ h2, h3⟩⟩

/-! ### Operations in their order -/
def guardV (g : Option (Nat × Bool)) (e : Env) : Option Bool :=
  match g with
  | none => some true
  | some (t, want) => match e.get t with
    | .p (.bool b) => some (b == want)
    | .tup [] => some false
    | _ => none
def IAct.dropped : IAct → Option Nat
  | .op o => o.dropped
  | _ => none
def strikeO (d : Option Nat) (e : Env) : Env := match d with | some d => e.strike d | none => e
def setO (d : Option Nat) (e : Env) (r : RV) : Env := match d with | some d => e.set d r | none => e

def actWp (P : Program) (act : IAct) (vals : List RV) (S : Mem) (K : RV → Mem → Prop) : Prop :=
  match act with
  | .op o => match opA o vals S with
    | some (r, S') => K r S'
    | none => False
  | .call f => vals.all RV.fc = true ∧ ACall P f vals S K
  | .callP f => (∃ pvs r, RV.toPVs vals = some pvs ∧ PFun P f pvs r ∧ K (.p r) S) ∨ (vals.all RV.fc = true ∧ ACall P f vals S K)
  | .callv => match vals with
    | .p (.fn f a b) :: rest => rest.all RV.fc = true ∧ ACall P f (a.map .p ++ rest ++ b.map .p) S K
    | .fn f a b :: rest => rest.all RV.fc = true ∧ ACall P f (a ++ rest ++ b) S K
    | _ => False
/-- .. in a region that leaves its order open: a function of values is called with values. -/
def actP (P : Program) (act : IAct) (vals : List RV) (S : Mem) (K : RV → Mem → Prop) : Prop :=
  match act with
  | .callP f => ∃ pvs r, RV.toPVs vals = some pvs ∧ PFun P f pvs r ∧ K (.p r) S
  | act => actWp P act vals S K
theorem actP.wp {P : Program} {act : IAct} {vals : List RV} {S : Mem} {K : RV → Mem → Prop} (h : actP P act vals S K) : actWp P act vals S K := by
  cases act <;> first | exact h | exact .inl h
def opsWp (P : Program) : List IOper → (Env → Mem → Prop) → Env → Mem → Prop
  | [], K, e, S => K e S
  | o :: os, K, e, S => match guardV o.guard e with
    | some true => actWp P o.act (o.args.map (·.ev e)) S fun r S' => opsWp P os K (setO o.dst (strikeO o.act.dropped e) r) S'
    | some false => opsWp P os K (setO o.dst e (.tup [])) S
    | none => False

def Ex.then (K : Env → Mem → Prop) (Q : Ex → Env → Mem → Prop) : Ex → Env → Mem → Prop
  | .normal, e, S => K e S
  | x, e, S => Q x e S
def Ex.inBlock (id : Nat) (Q : Ex → Env → Mem → Prop) : Ex → Env → Mem → Prop
  | .exit id', e, S => if id' = id then Q .normal e S else Q (.exit id') e S
  | x, e, S => Q x e S

/-- Whether an operation writes memory, reads memory that may be written, or neither. -/
inductive Cls where
  | pure | read | write
  deriving DecidableEq, Inhabited
def XOp.cls : XOp → Cls
  | .toU | .frU _ _ => .read
  | .ust _ | .bslm _ _ => .write
  | _ => .pure
def YOp.cls (y : YOp) : Cls := if y.wr then .write else .pure
def TK.cls : TK → Cls
  | .ptr => .read
  | _ => .pure
def IAct.cls : IAct → Cls
  | .op o => match o with
    | .ld _ | .b2s => .read
    | .x x => x.cls
    | .y y => y.cls
    | .bin _ tk => tk.cls
    | .st _ | .allocL _ _ | .allocH _ _ | .boxL _ | .boxH _ | .app _ _ _ _ | .bslo _ _ | .mks _ _ _ _ => .write
    | _ => .pure
  | .callP _ => .pure
  | _ => .write
/-- Each operation of a region that leaves its order open, with what it yields known. -/
def actD (P : Program) (act : IAct) (vals : List RV) (S : Mem) (r : RV) (S' : Mem) : Prop :=
  (match act.dropped with | some d => locGet S.loc d = none | none => True) ∧ actP P act vals S fun r' S'' => r' = r ∧ S'' = S'
/-- An operation that has come up: its number, what it did, what it yields, the memory ahead of it. -/
structure Came where
  i : Nat
  act : IAct
  vals : List RV
  r : RV
  S : Mem
def readsAs (act : IAct) (vals : List RV) (S : Mem) (r : RV) : Prop :=
  match act with
  | .op o => opA o vals S = some (r, S)
  | _ => False
/-- Of two operations in no order the one that reads yields the same on the other side of the one that writes. -/
def stab (un : List (Nat × Nat)) (x : Came) (j : Nat) (act : IAct) (vals : List RV) (r : RV) (S S' : Mem) : Prop :=
  un.contains (x.i, j) = true → if x.act.cls = .write then readsAs act vals x.S r else readsAs x.act x.vals S' x.r
def dWp (P : Program) (un : List (Nat × Nat)) : Nat → List Came → List IOper → (Env → Mem → Prop) → Env → Mem → Prop
  | _, _, [], K, e, S => K e S
  | i, h, o :: os, K, e, S => match guardV o.guard e with
    | some true => ∃ r S', actD P o.act (o.args.map (·.ev e)) S r S' ∧ (∀ x ∈ h, stab un x i o.act (o.args.map (·.ev e)) r S S') ∧
        dWp P un (i + 1) (⟨i, o.act, o.args.map (·.ev e), r, S⟩ :: h) os K (setO o.dst e r) S'
    | some false => dWp P un (i + 1) h os K (setO o.dst e (.tup [])) S
    | none => False

def irWp (P : Program) : IR → (Ex → Env → Mem → Prop) → Env → Mem → Prop
  | .skip, Q, e, S => Q .normal e S
  | .ops l k, Q, e, S => opsWp P l (fun e S => Q .normal (keepE k e) (keepS k S)) e S
  | .opsD l un k, Q, e, S => dWp P un 0 [] l (fun e S => Q .normal (keepE k e) (keepS k S)) e S
  | .seq a b, Q, e, S => irWp P a (Ex.then (irWp P b Q) Q) e S
  | .cond x a b, Q, e, S => match x.ev e with
    | .p (.bool c) => if c then irWp P a Q e S else irWp P b Q e S
    | .p .ab => ∃ J : Ex → Env → Mem → Prop, irWp P a J e S ∧ irWp P b J e S ∧ ∀ x e' S', J x e' S' → ∃ e2, Env.wk e' e2 ∧ Q x e2 S'
    | _ => False
  | .block id c, Q, e, S => irWp P c (Ex.inBlock id Q) e S
  | .exit id, Q, e, S => Q (.exit id) e S
  | .ret, Q, e, S => Q .ret e S
  | .no, _, _, _ => False
  | .loop k c, Q, e, S => ∃ (I : Nat → Env → Mem → Prop) (n : Nat), I n (keepE k e) (keepS k S) ∧
      ∀ n e S, I n e S → irWp P c (Ex.then (fun e' S' => ∃ m, m < n ∧ I m (keepE k e') (keepS k S')) Q) e S

/-! ### From the model's code -/
structure FHint extends Hint where
  keepR : Nat → Option (List Nat) := fun _ => none
  keepL : Nat → Option (List Nat) := fun _ => none
instance : Inhabited FHint := ⟨{}⟩
def guardOf (ops : Array Oper) (o : Oper) : Option (Option (Nat × Bool)) :=
  match o.guard with
  | none => some none
  | some (j, want) => match (ops[j]?).bind (·.dst) with
    | some t => some (some (t, want))
    | none => none
def trAct (P : Program) (hn : Hint) (o : Oper) : Option (IAct × List Operand) :=
  match o.op with
  | .call { callee := .value (.func f), args := args, .. } => match extOp P f with
    | some x => some (.op (.x x), args.toList)
    | none => some (if hn.pure f then .callP f else .call f, args.toList)
  | .call { callee := .value x, args := args, .. } => some (.callv, x :: args.toList)
  | _ => match trY P hn.mems o with
    | some x => some (.op (.y x.1), x.2)
    | none => match trOp P hn o with
      | some x => some (.op x.1, x.2)
      | none => match trX P o with
        | some x => some (.op (.x x.1), x.2)
        | none => some (.op .no, [])
def dstOk (n : Nat) (d : Option Nat) : Bool := match d with | some d => decide (d < n) | none => true
def trOper (P : Program) (hn : Hint) (n : Nat) (ops : Array Oper) (o : Oper) : Option IOper :=
  match trAct P hn o, guardOf ops o with
  | some (a, xs), some g => match mapO opnd xs with
    | some ys => if dstOk n o.dst then some ⟨o.dst, a, ys, g⟩ else none
    | none => none
  | _, _ => none
def clash (a b : Cls) : Bool := a == .write && b == .write
def soft (a b : Cls) : Bool := (a == .write && b == .read) || (a == .read && b == .write)
def Xp.slots : Xp → List Nat
  | .r t => [t]
  | .k _ => []
def IOper.looks (o : IOper) : List Nat := o.args.flatMap Xp.slots ++ (match o.guard with | some (t, _) => [t] | none => [])
def touch (d : Option Nat) (l : List Nat) : Bool := match d with | some d => l.contains d | none => false
def tangled (a b : IOper) : Bool := touch a.dst b.looks || touch b.dst a.looks || (match a.dst, b.dst with | some x, some y => x == y | _, _ => false) || clash a.act.cls b.act.cls
/-- What must come first is said to come first. -/
def okPairs (bef : Array Nat) : List IOper → Nat → Bool
  | [], _ => true
  | o :: os, i => (os.zipIdx (i + 1)).all (fun x => !tangled o x.1 || (bef.getD x.2 0).testBit i) && okPairs bef os (i + 1)
/-- What reads and what writes, in no order. -/
def unPairs (bef : Array Nat) : List IOper → Nat → List (Nat × Nat)
  | [], _ => []
  | o :: os, i => ((os.zipIdx (i + 1)).filter fun x => soft o.act.cls x.1.act.cls && !(bef.getD x.2 0).testBit i).map (fun x => (i, x.2)) ++ unPairs bef os (i + 1)
def okEdges (ops : Array Oper) : Bool := (ops.toList.zipIdx 0).all fun x => x.1.after.all fun e => !Region.binds .any e || decide (e.on < x.2)
def okD (ops : Array Oper) (l : List IOper) : Bool := okEdges ops && okPairs (Region.before ops) l 0
def firstRegion : Code → Option Nat
  | .region id _ _ => some id
  | .seq a b => match firstRegion a with
    | some i => some i
    | none => firstRegion b
  | .block _ c | .loop c | .scope c => firstRegion c
  | .cond _ a b => match firstRegion a with
    | some i => some i
    | none => firstRegion b
  | _ => none
def loopKeep (hn : FHint) (c : Code) : Option (List Nat) := match firstRegion c with | some i => hn.keepL i | none => none
def trCode (P : Program) (hn : FHint) (n : Nat)  : Code → Option IR
  | .skip => some .skip
  | .region id ops draw => match mapO (trOper P hn.toHint n ops) ops.toList with
    | some l => if draw then (if okD ops l then some (.opsD l (unPairs (Region.before ops) l 0) (hn.keepR id)) else some .no) else some (.ops l (hn.keepR id))
    | none => some .no
  | .seq a b => match trCode P hn n a, trCode P hn n b with
    | some x, some y => some (.seq x y)
    | _, _ => none
  | .cond c a b => match opnd c, trCode P hn n a, trCode P hn n b with
    | some z, some x, some y => some (.cond z x y)
    | _, _, _ => none
  | .block id c => (trCode P hn n c).map (.block id)
  | .loop c => (trCode P hn n c).map (.loop (loopKeep hn c))
  | .exit id => some (.exit id)
  | .ret => some .ret
  | .scope c => trCode P hn n c
  | .label _ => some .skip
  | _ => some .no
end Go.Ag
/- An abstract machine for Go functions, fifteenth part: code does as its program says. -/
namespace Go.Ag
open Go
set_option linter.unusedVariables false
set_option linter.unusedSimpArgs false
section
variable {P : Program} {X : Cells} {ow : Ow} {S : Mem} {w : World}

def ERel (X : Cells) (ow : Ow) (S : Mem) (w : World) (e : Env) (tmps : Array Value) : Prop := ∀ t, RRep (FX X ow S.toks) w ow S.toks (e.get t) (tmps.getD t undef)

theorem get_set (e : Env) (d : Nat) (r : RV) (t : Nat) : (e.set d r).get t = if d = t then r else e.get t := by
  induction e with
  | nil => simp [Env.set_nil, Env.set_cons, Env.get_nil, Env.get_cons]
  | cons x e ih =>
    obtain ⟨k, u⟩ := x
    rw [Env.set_cons]
    by_cases h : k = d
    · subst h
      simp only [if_pos, Env.get_nil, Env.get_cons]
      split <;> rfl
    · simp only [if_neg h, Env.get_nil, Env.get_cons, ih]
      by_cases h1 : k = t
      · subst h1; simp [Ne.symm h]
      · simp [h1]
def struck (d : Nat) (v : RV) : RV := match v with | .la d' _ => if d' = d then .top else v | _ => v
theorem get_strike (e : Env) (d t : Nat) : (e.strike d).get t = struck d (e.get t) := by
  induction e with
  | nil => rfl
  | cons x e ih =>
    obtain ⟨k, u⟩ := x
    simp only [Env.strike, List.map_cons, Env.get_nil, Env.get_cons]
    split
    · rfl
    · exact ih
def keptV (l : List Nat) (v : RV) : RV := match v with | .la d o => if l.contains d then .la d o else .top | v => v
theorem get_keepV (e : Env) (l : List Nat) (t : Nat) : (e.keepV l).get t = if t ∈ l then keptV l (e.get t) else .top := by
  have : ∀ (m : List Nat), Env.get (m.map fun t => (t, keptV l (e.get t))) t = if t ∈ m then keptV l (e.get t) else .top := by
    intro m
    induction m with
    | nil => simp [Env.get_nil, Env.get_cons]
    | cons a m ih =>
      simp only [List.map_cons, Env.get_nil, Env.get_cons, ih, List.mem_cons]
      by_cases h : a = t
      · subst h; simp
      · simp [h, Ne.symm h]
  exact this l

theorem rrep_top {F w ow T} (v : Value) : RRep F w ow T .top v := .inr (.top v)
theorem RRep.mono {X ow T w ow' T' w'} (k : Tr X ow T w ow' T' w') {r : RV} {v : Value} (hl : ∀ β d o, r = .la d o → ow β = some (.loc d) → ow' β = some (.loc d))
    (h : RRep (FX X ow T) w ow T r v) : RRep (FX X ow' T') w' ow' T' r v := by
  rcases h with ⟨d, off, β, rfl, ho, rfl⟩ | h
  · exact .inl ⟨d, off, β, rfl, hl β d off rfl ho, rfl⟩
  · exact .inr (h.mono k)

/-! ### What is forgotten -/
def owKeep (ow : Ow) (l : List Nat) : Ow := fun β => match ow β with
  | some (.loc d) => if l.contains d then some (.loc d) else none
  | q => q
theorem owKeep_some {ow : Ow} {l : List Nat} {β : Nat} {o : Owner} (h : owKeep ow l β = some o) : ow β = some o ∧ ∀ d, o = .loc d → l.contains d = true := by
  unfold owKeep at h
  split at h
  · rename_i d hd
    split at h
    · cases h; exact ⟨hd, fun d' e => by cases e; assumption⟩
    · cases h
  · rename_i hne
    exact ⟨h, fun d e => absurd (h.trans (by rw [e])) (hne d)⟩
theorem owKeep_ne {ow : Ow} {l : List Nat} {β : Nat} {o : Owner} (h : ow β = some o) (hd : ∀ d, o = .loc d → l.contains d = true) : owKeep ow l β = some o := by
  unfold owKeep
  rw [h]
  cases o with
  | loc d => simp only [hd d rfl, if_true]
  | _ => rfl
theorem locGet_filter (l : List (Nat × List RV)) (p : List Nat) (d : Nat) : locGet (l.filter fun x => p.contains x.1) d = if p.contains d then locGet l d else none := by
  induction l with
  | nil => simp [locGet_nil, locGet_cons]
  | cons x l ih =>
    obtain ⟨k, v⟩ := x
    simp only [List.filter_cons]
    split
    · rename_i h
      simp only [locGet_nil, locGet_cons, ih]
      by_cases hk : k = d
      · subst hk; rw [if_pos rfl, if_pos h, if_pos rfl]
      · rw [if_neg hk, if_neg hk]
    · rename_i h
      rw [ih]
      simp only [locGet_nil, locGet_cons]
      by_cases hk : k = d
      · subst hk; rw [if_neg h, if_neg h]
      · rw [if_neg hk]

theorem MRel.keepV (hM : MRel X ow S w) (l : List Nat) : MRel X (owKeep ow l) (S.keepV l) w ∧ Tr X ow S.toks w (owKeep ow l) S.toks w := by
  have tr : Tr X ow S.toks w (owKeep ow l) S.toks w :=
    { st := fun β o u h k => ⟨h, fun hx => k (hx.imp id fun hx => by
        unfold Mut at *
        cases hq : owKeep ow l β with
        | none => rw [hq] at hx; exact hx.elim
        | some q =>
          rw [hq] at hx
          rw [(owKeep_some hq).1]
          exact hx)⟩
      mem := fun β b h => .inr ⟨owKeep_ne h (fun d e => by cases e), rfl⟩
      tl := Nat.le_refl _
      tok := fun t e z _ h => ⟨e, h, Nat.le_refl _, fun _ => rfl, fun _ β sh a b => ⟨owKeep_ne a (fun d e => by cases e), b⟩⟩
      fr := fun β _ h => ⟨by unfold owKeep; rw [h], rfl⟩
      size := Nat.le_refl _
      os := rfl
      tape := rfl
      output := rfl }
  refine ⟨MRel.next (S' := S.keepV l) hM tr ?_ ?_ ?_ ?_ ?_ (fun _ h => h) (Nat.le_refl _) ?_ ?_ ?_, tr⟩
  · intro β β' o h h'
    exact hM.inj _ _ _ (owKeep_some h).1 (owKeep_some h').1
  · intro β o h; exact hM.bnd _ _ (owKeep_some h).1
  · intro β o h; exact hM.memlt _ _ (owKeep_some h).1
  · intro β o h; exact hM.toklt _ _ (owKeep_some h).1
  · intro β d h
    obtain ⟨h1, h2⟩ := owKeep_some h
    simp only [Mem.keepV, locGet_filter, h2 d rfl, if_true]
    exact hM.locin _ _ h1
  · intro b k h
    exact .inl ⟨h, fun _ _ => rfl⟩
  · intro d cs h
    simp only [Mem.keepV, locGet_filter] at h
    split at h
    · rename_i hd
      exact .inl ⟨h, fun β a => ⟨owKeep_ne a (fun d' e => by cases e; exact hd), rfl⟩⟩
    · cases h
  · intro t e z h
    exact .inl ⟨h, fun β a => ⟨owKeep_ne a (fun d e => by cases e), rfl⟩⟩

theorem ERel.keepV (hM : MRel X ow S w) {e : Env} {tmps : Array Value} (he : ERel X ow S w e tmps) (l : List Nat) : ERel X (owKeep ow l) (S.keepV l) w (e.keepV l) tmps := by
  intro t
  rw [get_keepV]
  split
  · unfold keptV
    split
    · rename_i d o h
      split
      · rename_i hd
        have := he t
        rw [h] at this
        exact this.mono (hM.keepV l).2 (fun β d' o' e ho => owKeep_ne ho (fun d'' e' => by cases e; cases e'; exact hd))
      · exact rrep_top _
    · rename_i hne
      exact (he t).mono (hM.keepV l).2 (fun β d o e => absurd e (hne d o))
  · exact rrep_top _

/-- The state of a frame. -/
structure SRel (X : Cells) (n : Nat) (ow : Ow) (S : Mem) (w : World) (e : Env) (a : Act) : Prop where
  defers : a.defers = []
  size : a.tmps.size = n
  env : ERel X ow S w e a.tmps
  mem : MRel X ow S w

theorem SRel.keep {n a e} (h : SRel X n ow S w e a) (k : Option (List Nat)) : ∃ ow', SRel X n ow' (keepS k S) w (keepE k e) a ∧ Tr X ow S.toks w ow' (keepS k S).toks w := by
  cases k with
  | none => exact ⟨ow, h, Tr.refl _ _ _ _⟩
  | some l => exact ⟨owKeep ow l, ⟨h.defers, h.size, h.env.keepV h.mem l, (h.mem.keepV l).1⟩, (h.mem.keepV l).2⟩

theorem ERel.put {X ow S w ow' S' w'} {e : Env} {tmps : Array Value} (he : ERel X ow S w e tmps) (tr : Tr X ow S.toks w ow' S'.toks w') {D : Option Nat}
    (hl : ∀ β d, ow β = some (.loc d) → some d ≠ D → ow' β = some (.loc d)) {dst : Option Nat} (hd : dstOk tmps.size dst = true) {r : RV} {v : Value}
    (hr : RRep (FX X ow' S'.toks) w' ow' S'.toks r v) : ERel X ow' S' w' (setO dst (strikeO D e) r) (match dst with | some d => tmps.setIfInBounds d v | none => tmps) := by
  have hs : ∀ t, RRep (FX X ow' S'.toks) w' ow' S'.toks ((strikeO D e).get t) (tmps.getD t undef) := by
    intro t
    cases D with
    | none => exact (he t).mono tr (fun β d o _ h => hl β d h (by simp))
    | some d =>
      simp only [strikeO, get_strike]
      unfold struck
      split
      · rename_i d' o hg
        split
        · exact rrep_top _
        · rename_i hne
          have := he t
          rw [hg] at this ⊢
          exact this.mono tr (fun β d2 o2 e2 h => by cases e2; exact hl β d' h (by simpa using hne))
      · rename_i hne
        exact (he t).mono tr (fun β d2 o2 e2 => absurd e2 (hne d2 o2))
  intro t
  cases dst with
  | none => exact hs t
  | some d =>
    simp only [setO, get_set]
    have hd' : d < tmps.size := by simpa [dstOk] using hd
    by_cases h : d = t
    · subst h
      rw [if_pos rfl]
      simpa [hd'] using hr
    · rw [if_neg h]
      have : (tmps.setIfInBounds d v).getD t undef = tmps.getD t undef := by
        simp [Array.getD_eq_getD_getElem?, Array.getElem?_setIfInBounds_ne h]
      rw [this]
      exact hs t

/-! ### Calls -/
theorem SC.acall {f args K} (h : SC P f args { S with loc := [] } fun r S' => K r { S' with loc := S.loc }) : ACall P f args S K := by
  refine ⟨h.1, fun X ow w vs hM hs ha => ?_⟩
  let ow1 := owKeep ow []
  let X1 : Cells := fun β o => X β o ∨ ∃ d, ow β = some (.loc d)
  have hloc : ∀ β d, ow1 β ≠ some (.loc d) := by
    intro β d h
    have := (owKeep_some h).2 d rfl
    simp at this
  have hF : FX X1 ow1 S.toks = FX X ow S.toks := by
    funext β o
    apply propext
    constructor
    · rintro ((hx | ⟨d, hd⟩) | hx)
      · exact .inl hx
      · right; unfold Mut; rw [hd]; trivial
      · right
        unfold Mut at *
        cases hq : ow1 β with
        | none => rw [hq] at hx; exact hx.elim
        | some q => rw [hq] at hx; rw [(owKeep_some hq).1]; exact hx
    · rintro (hx | hx)
      · exact .inl (.inl hx)
      · unfold Mut at hx
        cases hq : ow β with
        | none => rw [hq] at hx; exact hx.elim
        | some q =>
          cases q with
          | loc d => exact .inl (.inr ⟨d, hq⟩)
          | mem b => right; unfold Mut; rw [show ow1 β = some (.mem b) from owKeep_ne hq (fun d e => by cases e)]; trivial
          | tok t =>
            rw [hq] at hx
            right; unfold Mut; rw [show ow1 β = some (.tok t) from owKeep_ne hq (fun d e => by cases e)]; exact hx
  have frw : ∀ {r v}, FRep (FX X ow S.toks) w ow S.toks r v → FRep (FX X1 ow1 S.toks) w ow1 S.toks r v := by
    intro r v hr
    rw [hF]
    induction hr with
    | p h => exact .p h
    | nsl b a h => exact .nsl b a h
    | own l t v ht h h' =>
      refine .own l t v ht h (fun e z he => ?_)
      obtain ⟨q1, q2, q3⟩ := h' e z he
      refine ⟨q1, q2, fun heq => ?_⟩
      obtain ⟨β, cap, a, b, c⟩ := q3 heq
      exact ⟨β, cap, a, owKeep_ne b (fun d e => by cases e), c⟩
    | ptr b off β h => exact .ptr b off β (h.imp_right fun h => owKeep_ne h (fun d e => by cases e))
    | rs b off len z β cap h hc => exact .rs b off len z β cap (h.imp_right fun h => ⟨owKeep_ne h.1 (fun d e => by cases e), h.2⟩) hc
    | mp b β h => exact .mp b β (h.imp_right fun h => owKeep_ne h (fun d e => by cases e))
    | od l t a cap h hc ih => exact .od l t a cap ih hc
    | up p => exact .up p
    | agg cs vs hl h ih => exact .agg cs vs hl ih
    | tup cs vs hl h ih => exact .tup cs vs hl ih
    | fn f xs ys vs us hv hu h h' ih ih' => exact .fn f xs ys vs us hv hu ih ih'
    | iface t x v h ih => exact .iface t x v ih
    | top v => exact .top v
  have hM1 : MRel X1 ow1 { S with loc := [] } w :=
    { inj := fun β β' o h h' => hM.inj _ _ _ (owKeep_some h).1 (owKeep_some h').1
      bnd := fun β o h => hM.bnd _ _ (owKeep_some h).1
      xb := fun β o h => by
        rcases h with h | ⟨d, hd⟩
        · obtain ⟨a, b⟩ := hM.xb β o h
          exact ⟨a, by show owKeep ow [] β = none; unfold owKeep; rw [b]⟩
        · exact ⟨hM.bnd _ _ hd, by show owKeep ow [] β = none; unfold owKeep; rw [hd]; simp⟩
      memlt := fun β o h => hM.memlt _ _ (owKeep_some h).1
      toklt := fun β o h => hM.toklt _ _ (owKeep_some h).1
      locin := fun β d h => absurd h (hloc β d)
      deadlt := hM.deadlt
      blk := fun b k h => by
        have q := hM.blk b k h
        cases k with
        | cells ty cs =>
          obtain ⟨hd, β, ho, vs, fr, h1, h2, h3, h4⟩ := q
          exact ⟨hd, β, owKeep_ne ho (fun d e => by cases e), vs, fr, h1, h2, h3, fun k x v a b => frw (h4 k x v a b)⟩
        | iter s pos =>
          obtain ⟨hd, β, ho, h1⟩ := q
          exact ⟨hd, β, owKeep_ne ho (fun d e => by cases e), h1⟩
        | dead => trivial
      loc := fun d cs h => by simp [locGet_nil, locGet_cons] at h
      tok := fun t e z h hz => by
        obtain ⟨β, vs, fr, ho, rest⟩ := hM.tok t e z h hz
        exact ⟨β, vs, fr, owKeep_ne ho (fun d e => by cases e), rest⟩ }
  refine (h.2 X1 ow1 w vs hM1 hloc hs (fun k r v a b => frw (ha k r v a b))).mono ?_
  rintro e w' ⟨v, r, S', ow', he, hK, hl', hM', hno, hr, tr⟩
  let ow2 : Ow := fun β => match ow β with | some (.loc d) => some (.loc d) | _ => ow' β
  have o2 : ∀ β, (∃ d, ow β = some (.loc d) ∧ ow2 β = some (.loc d) ∧ ow' β = none) ∨ ((∀ d, ow β ≠ some (.loc d)) ∧ ow2 β = ow' β) := by
    intro β
    by_cases h : ∃ d, ow β = some (.loc d)
    · obtain ⟨d, hd⟩ := h
      left
      refine ⟨d, hd, by show (match ow β with | some (Owner.loc d) => some (Owner.loc d) | _ => ow' β) = _; rw [hd], ?_⟩
      exact (tr.fr β (hM.bnd _ _ hd) (by show owKeep ow [] β = none; unfold owKeep; rw [hd]; simp)).1
    · right
      refine ⟨fun d e => h ⟨d, e⟩, ?_⟩
      show (match ow β with | some (Owner.loc d) => some (Owner.loc d) | _ => ow' β) = _
      split
      · rename_i d hd; exact absurd ⟨d, hd⟩ h
      · rfl
  have up : ∀ {β q}, ow' β = some q → ow2 β = some q := by
    intro β q hq
    rcases o2 β with ⟨d, _, _, h3⟩ | ⟨_, h2⟩
    · rw [h3] at hq; cases hq
    · rw [h2, hq]
  have hF2 : FX X1 ow' S'.toks = FX X ow2 S'.toks := by
    funext β o
    apply propext
    constructor
    · rintro ((hx | ⟨d, hd⟩) | hx)
      · exact .inl hx
      · right; unfold Mut
        rcases o2 β with ⟨d', h1, h2, h3⟩ | ⟨h1, _⟩
        · rw [h2]; trivial
        · exact absurd hd (h1 d)
      · right
        unfold Mut at *
        cases hq : ow' β with
        | none => rw [hq] at hx; exact hx.elim
        | some q => rw [hq] at hx; rw [up hq]; exact hx
    · rintro (hx | hx)
      · exact .inl (.inl hx)
      · rcases o2 β with ⟨d', h1, h2, h3⟩ | ⟨h1, h2⟩
        · exact .inl (.inr ⟨d', h1⟩)
        · right; unfold Mut at *; rw [h2] at hx; exact hx
  have frw2 : ∀ {r v}, FRep (FX X1 ow' S'.toks) w' ow' S'.toks r v → FRep (FX X ow2 S'.toks) w' ow2 S'.toks r v := by
    intro r v hr
    rw [← hF2]
    induction hr with
    | p h => exact .p h
    | nsl b a h => exact .nsl b a h
    | own l t v ht h h' =>
      refine .own l t v ht h (fun e z he => ?_)
      obtain ⟨q1, q2, q3⟩ := h' e z he
      refine ⟨q1, q2, fun heq => ?_⟩
      obtain ⟨β, cap, a, b, c⟩ := q3 heq
      exact ⟨β, cap, a, up b, c⟩
    | ptr b off β h => exact .ptr b off β (h.imp_right up)
    | rs b off len z β cap h hc => exact .rs b off len z β cap (h.imp_right fun h => ⟨up h.1, h.2⟩) hc
    | mp b β h => exact .mp b β (h.imp_right up)
    | od l t a cap h hc ih => exact .od l t a cap ih hc
    | up p => exact .up p
    | agg cs vs hl h ih => exact .agg cs vs hl ih
    | tup cs vs hl h ih => exact .tup cs vs hl ih
    | fn f xs ys vs us hv hu h h' ih ih' => exact .fn f xs ys vs us hv hu ih ih'
    | iface t x v h ih => exact .iface t x v ih
    | top v => exact .top v
  have tr2 : Tr X ow S.toks w ow2 S'.toks w' :=
    { st := by
        have := tr.st
        rw [hF2] at this
        rw [show FX X1 ow1 ({ S with loc := [] } : Mem).toks = FX X ow S.toks from hF] at this
        exact this
      mem := fun β b h => (tr.mem β b (owKeep_ne h (fun d e => by cases e))).imp_right fun h => ⟨up h.1, h.2⟩
      tl := tr.tl
      tok := fun t e' z' ht h => by
        obtain ⟨e, h1, h2, h0, h3⟩ := tr.tok t e' z' ht h
        exact ⟨e, h1, h2, h0, fun heq β sh a b => let ⟨c, d⟩ := h3 heq β sh (owKeep_ne a (fun d e => by cases e)) b; ⟨up c, d⟩⟩
      fr := fun β hb hn => by
        obtain ⟨a, b⟩ := tr.fr β hb (by show owKeep ow [] β = none; unfold owKeep; rw [hn])
        refine ⟨?_, b⟩
        rcases o2 β with ⟨d, h1, _⟩ | ⟨_, h2⟩
        · rw [hn] at h1; cases h1
        · rw [h2, a]
      size := tr.size
      os := tr.os
      tape := tr.tape
      output := tr.output }
  refine ⟨v, r, { S' with loc := S.loc }, ow2, he, hK, ?_, frw2 hr, tr2, fun β d h => by
    rcases o2 β with ⟨d', h1, h2, _⟩ | ⟨h1, _⟩
    · rw [h] at h1; cases h1; exact h2
    · exact absurd h (h1 d)⟩
  have down : ∀ {β q}, ow2 β = some q → ow' β = some q ∨ ∃ d, q = .loc d ∧ ow β = some (.loc d) := by
    intro β q hq
    rcases o2 β with ⟨d, h1, h2, h3⟩ | ⟨_, h2⟩
    · rw [h2] at hq; cases hq; exact .inr ⟨d, rfl, h1⟩
    · rw [h2] at hq; exact .inl hq
  exact
    { inj := fun β β' o h h' => by
        rcases down h with a | ⟨d, rfl, a⟩ <;> rcases down h' with b | ⟨d', e, b⟩
        · exact hM'.inj _ _ _ a b
        · subst e; exact absurd a (hno _ _)
        · exact absurd b (hno _ _)
        · cases e; exact hM.inj _ _ _ a b
      bnd := fun β o h => by
        rcases down h with a | ⟨d, rfl, a⟩
        · exact hM'.bnd _ _ a
        · exact Nat.lt_of_lt_of_le (hM.bnd _ _ a) tr.size
      xb := fun β o h => by
        obtain ⟨a, b⟩ := hM.xb β o h
        exact ⟨Nat.lt_of_lt_of_le a tr.size, (tr2.fr β a b).1⟩
      memlt := fun β b h => by
        rcases down h with a | ⟨d, e, a⟩
        · exact hM'.memlt _ _ a
        · cases e
      toklt := fun β b h => by
        rcases down h with a | ⟨d, e, a⟩
        · exact hM'.toklt _ _ a
        · cases e
      locin := fun β d h => by
        rcases down h with a | ⟨d', e, a⟩
        · exact absurd a (hno _ _)
        · cases e; exact hM.locin _ _ a
      deadlt := hM'.deadlt
      blk := fun b k h => by
        have q := hM'.blk b k h
        cases k with
        | cells ty cs =>
          obtain ⟨hd, β, ho, vs, fr, h1, h2, h3, h4⟩ := q
          exact ⟨hd, β, up ho, vs, fr, h1, h2, h3, fun k x v a b => frw2 (h4 k x v a b)⟩
        | iter s pos =>
          obtain ⟨hd, β, ho, h1⟩ := q
          exact ⟨hd, β, up ho, h1⟩
        | dead => trivial
      loc := fun d cs h => by
        obtain ⟨β, ho, hrow⟩ := hM.loc d cs h
        refine ⟨β, ?_, hrow.mono tr2 ?_⟩
        · rcases o2 β with ⟨d', h1, h2, _⟩ | ⟨h1, _⟩
          · rw [ho] at h1; cases h1; exact h2
          · exact absurd ho (h1 d)
        · exact (tr.fr β (hM.bnd _ _ ho) (by show owKeep ow [] β = none; unfold owKeep; rw [ho]; simp)).2
      tok := fun t e z h hz => by
        obtain ⟨β, vs, fr, ho, rest⟩ := hM'.tok t e z h hz
        exact ⟨β, vs, fr, up ho, rest⟩ }

/-- A function of values alone, called in the midst of a frame. -/
theorem PFun.acall {f args pvs r K} (h : PFun P f pvs r) (ha : RV.toPVs args = some pvs) (hK : K (.p r) S) : ACall P f args S K := by
  refine ⟨h.1, fun X ow w vs hM hs hv => ?_⟩
  have hM0 : MRel (FX X ow S.toks) (fun _ => none) { mem0 with loc := [] } w :=
    { inj := fun β β' o h => by cases h
      bnd := fun β o h => by cases h
      xb := fun β o h => by
        refine ⟨?_, rfl⟩
        rcases h with h | h
        · exact (hM.xb _ _ h).1
        · unfold Mut at h
          cases hq : ow β with
          | none => rw [hq] at h; exact h.elim
          | some q => exact hM.bnd _ _ hq
      memlt := fun β o h => by cases h
      toklt := fun β o h => by cases h
      locin := fun β o h => by cases h
      deadlt := fun b h => by simp [Dead, mem0] at h
      blk := fun b k h => by simp [mem0] at h
      loc := fun d cs h => by simp [locGet_nil, locGet_cons] at h
      tok := fun t e z h => by simp [mem0] at h }
  obtain ⟨i1, i2⟩ := mapO_get ha
  have hFF : ∀ β o, FX (FX X ow S.toks) (fun _ => none) mem0.toks β o ↔ FX X ow S.toks β o := by
    intro β o
    constructor
    · rintro (h | h)
      · exact h
      · exact h.elim
    · exact fun h => .inl h
  have hst : St (FX X ow S.toks) w (FX (FX X ow S.toks) (fun _ => none) mem0.toks) w := fun β o u a b => ⟨a, fun c => b ((hFF β o).1 c)⟩
  refine (h.2 (FX X ow S.toks) (fun _ => none) w vs hM0 (fun _ _ h => by cases h) (by simp [i1, hs]) (fun k q v a b => ?_)).mono ?_
  · simp only [List.getElem?_map, Option.map_eq_some_iff] at a
    obtain ⟨y, hy, rfl⟩ := a
    obtain ⟨q, h1, h2⟩ := i2 k y hy
    exact .p (((hv k q v h1 b).toPV h2).mono hst)
  · rintro e w' ⟨v, q, S', ow', he, hq, hl, hM', hno, hr, tr⟩
    have hM'' := hM'
    have hrep : Rep (FX X ow S.toks) w' r v := still_sound hM' (F' := FX X ow S.toks) (fun β o h => .inl h) (fun β b o h h' => by
      have := (hM'.xb β o h').2
      rw [h] at this
      cases this) 6 hr hq
    have hfr : ∀ β, β < w.heap.size → w'.heap[β]? = w.heap[β]? := fun β hb => (tr.fr β hb rfl).2
    have tr2 : Tr X ow S.toks w ow S.toks w' :=
      { st := fun β o u a b => ⟨by rw [cell_ne (hfr β (cell_lt a))]; exact a, b⟩
        mem := fun β _ h => .inr ⟨h, by unfold World.shape?; rw [hfr β (hM.bnd _ _ h)]⟩
        tl := Nat.le_refl _
        tok := fun t e z _ h => ⟨e, h, Nat.le_refl _, fun _ => rfl, fun _ β sh a b => ⟨a, by unfold World.shape? at *; rw [hfr β (hM.bnd _ _ a)]; exact b⟩⟩
        fr := fun β hb hn => ⟨hn, hfr β hb⟩
        size := tr.size
        os := tr.os
        tape := tr.tape
        output := tr.output }
    refine ⟨v, .p r, S, ow, he, hK, ?_, .p hrep, tr2, fun _ _ h => h⟩
    exact hM.next tr2 hM.inj (fun β o h => Nat.lt_of_lt_of_le (hM.bnd _ _ h) tr.size) hM.memlt hM.toklt hM.locin (fun _ h => h) (Nat.le_refl _)
      (fun b k h => .inl ⟨h, fun β a => hfr β (hM.bnd _ _ a)⟩) (fun d cs h => .inl ⟨h, fun β a => ⟨a, hfr β (hM.bnd _ _ a)⟩⟩) (fun t e z h => .inl ⟨h, fun β a => ⟨a, hfr β (hM.bnd _ _ a)⟩⟩)
end
end Go.Ag
/- An abstract machine for Go functions, sixteenth part: regions in their order, code, functions. -/
namespace Go.Ag
open Go
set_option linter.unusedVariables false
set_option linter.unusedSimpArgs false
section
variable {P : Program} {X : Cells} {ow : Ow} {S : Mem} {w : World}

theorem guard_sound {F T} {ops : Array Oper} {o : Oper} {g : Option (Nat × Bool)} {e : Env} {tmps : Array Value} (hg : guardOf ops o = some g) (he : ∀ t b, g = some (t, b) → RRep F w ow T (e.get t) (tmps.getD t undef)) {b : Bool} (hb : guardV g e = some b) (n : Nat) (hn : tmps.size = n)
    (hlt : ∀ t b, g = some (t, b) → t < n) : Region.wanted o (yielded ops tmps) = b := by
  unfold guardOf at hg
  unfold Region.wanted
  split at hg
  · rename_i ho
    cases hg
    simp only [guardV, Option.some.injEq] at hb
    rw [ho]; exact hb
  · rename_i j want ho
    rw [ho]
    split at hg
    · rename_i t ht
      cases hg
      simp only [guardV] at hb
      have := he t want rfl
      have ht2 : tmps[t]? = some (tmps.getD t undef) := by
        have : t < tmps.size := by rw [hn]; exact hlt t want rfl
        simp [this]
      have hy : yielded ops tmps j = match some (tmps.getD t undef) with | some (.bool b) => some b | _ => none := by
        unfold yielded
        rw [ht]
        simp only [Option.bind_some, ht2]
        generalize tmps.getD t undef = z
        cases z <;> rfl
      show (yielded ops tmps j == some want) = b
      rw [hy]
      split at hb
      · rename_i c hc
        cases hb
        rw [hc] at this
        rw [rbool this]
        cases c <;> cases want <;> rfl
      · rename_i hc
        cases hb
        rw [hc] at this
        rcases this with ⟨d, off, β, h, _⟩ | h
        · cases h
        · generalize tmps.getD t undef = v at h
          cases h with | tup cs vs hl hh => cases want <;> rfl
      · cases hb
    · cases hg

/-- One operation. -/
theorem act_sound {hn : Hint} {o : Oper} {act : IAct} {xs : List Operand} {vals : List RV} {a : Act} {K : RV → Mem → Prop} {next : Act → World → Prop} {Q : Exit → Act → World → Prop}
    (hM : MRel X ow S w) (ht : trAct P hn o = some (act, xs)) (hargs : Args (FX X ow S.toks) w ow S.toks a.eval xs vals) (h : actWp P act vals S K)
    (hk : ∀ r S' ow' v w', K r S' → MRel X ow' S' w' → Tr X ow S.toks w ow' S'.toks w' → (∀ β d, ow β = some (.loc d) → some d ≠ act.dropped → ow' β = some (.loc d)) → RRep (FX X ow' S'.toks) w' ow' S'.toks r v → next (a.put o.dst v) w') :
    o.wp P a w next Q := by
  -- a call
  have call : ∀ (f : FuncId) (vals : List RV) (vs : Array Value), (execOp a.eval o).run P w = (callFunc f vs).run P w → vs.size = vals.length →
      (∀ (k : Nat) r v, vals[k]? = some r → vs[k]? = some v → FRep (FX X ow S.toks) w ow S.toks r v) → act.dropped = none → ACall P f vals S K → o.wp P a w next Q := by
    intro f vals vs hrun hs hv hd hc
    unfold Oper.wp
    rw [hrun, hc.1]
    refine (hc.2 X ow w vs hM hs hv).mono ?_
    rintro en w' ⟨v, r, S', ow', rfl, h1, h2, h3, h4, h5⟩
    exact hk r S' ow' v w' h1 h2 h4 (fun β d h _ => h5 β d h) (.inr h3)
  have argsAt : ∀ {xs : List Operand} {vals : List RV}, Args (FX X ow S.toks) w ow S.toks a.eval xs vals → (vals.all RV.fc = true) →
      ∀ (k : Nat) r v, vals[k]? = some r → (xs.map a.eval).toArray[k]? = some v → FRep (FX X ow S.toks) w ow S.toks r v := by
    intro xs vals ha hfc k r v h1 h2
    simp only [List.getElem?_toArray, List.getElem?_map, Option.map_eq_some_iff] at h2
    obtain ⟨x, hx, rfl⟩ := h2
    simp only [List.all_eq_true] at hfc
    exact (ha.at_ k x r hx h1).f (hfc r (List.mem_of_getElem? h1))
  unfold trAct at ht
  split at ht
  · rename_i f args tys hop
    have hrun : (execOp a.eval o).run P w = (callFunc f (args.map a.eval)).run P w := by
      simp only [execOp, hop, resolve, Deferred.ofValue, Act.eval]
      simp [invoke]
    split at ht
    · rename_i x hx
      cases ht
      simp only [actWp] at h
      split at h
      · rename_i r S' hop'
        simp only [opA] at hop'
        obtain ⟨n, v, ow', w', h1, h2, h3, h4, h5, h6⟩ := ext_sound (P := P) hM hx hargs hop'
        have e : (args.toList.map a.eval).toArray = args.map a.eval := by
          apply Array.ext'
          simp
        rw [e, ← hrun] at h1
        unfold Oper.wp
        rw [h1]
        rcases h2 with rfl | ⟨rfl, rfl⟩
        · exact hk r S' ow' v w' h h3 h4 (fun β d hb _ => h5 β d hb (by simp)) h6
        · exact hk r S' ow' undef w' h h3 h4 (fun β d hb _ => h5 β d hb (by simp)) h6
      · exact h.elim
    have hxs : xs = args.toList := by cases ht; rfl
    subst hxs
    have hl := hargs.len
    simp at hl
    split at ht
    · cases ht
      simp only [actWp] at h
      rcases h with ⟨pvs, r, h1, h2, h3⟩ | h
      · have := argsAt hargs (by simp only [List.all_eq_true]; exact toPVs_fc h1)
        exact call f vals (args.map a.eval) hrun (by simp [hl]) (by simpa using this) rfl (h2.acall h1 h3)
      · have := argsAt hargs h.1
        exact call f vals (args.map a.eval) hrun (by simp [hl]) (by simpa using this) rfl h.2
    · cases ht
      simp only [actWp] at h
      have := argsAt hargs h.1
      exact call f vals (args.map a.eval) hrun (by simp [hl]) (by simpa using this) rfl h.2
  · rename_i x args tys hne hop
    cases ht
    simp only [actWp] at h
    split at h
    · rename_i f as bs rest
      obtain ⟨h1, h2⟩ := Args.tail hargs
      have hxv : ∃ vs us, a.eval x = .func (.func f) vs us ∧ vs.size = as.length ∧ us.size = bs.length ∧ (∀ (k : Nat) p v, as[k]? = some p → vs[k]? = some v → Rep (FX X ow S.toks) w p v) ∧ ∀ (k : Nat) p v, bs[k]? = some p → us[k]? = some v → Rep (FX X ow S.toks) w p v := by
        rcases h1 with ⟨d, off, β, hq, _⟩ | h1
        · cases hq
        · generalize a.eval x = v at h1
          cases h1 with | p h1 => cases h1 with | fn f xs ys vs us hv hu h h' => exact ⟨vs, us, rfl, hv, hu, h, h'⟩
      obtain ⟨vs, us, hxe, hvs, hus, hv1, hv2⟩ := hxv
      have hl := h2.len
      simp at hl
      refine call f _ (vs ++ args.map a.eval ++ us) ?_ (by simp [hvs, hus, hl]) ?_ rfl h.2
      · simp only [execOp, hop, resolve]
        rw [hxe]
        simp [Deferred.ofValue, invoke]
      · intro k r v g1 g2
        have hat := argsAt h2 h.1
        by_cases k1 : k < as.length
        · rw [List.append_assoc, List.getElem?_append_left (by simpa using k1)] at g1
          rw [Array.append_assoc, Array.getElem?_append_left (by omega)] at g2
          simp only [List.getElem?_map, Option.map_eq_some_iff] at g1
          obtain ⟨p, hp, rfl⟩ := g1
          exact .p (hv1 k p v hp g2)
        · rw [List.append_assoc, List.getElem?_append_right (by simp; omega)] at g1
          rw [Array.append_assoc, Array.getElem?_append_right (by omega)] at g2
          simp only [List.length_map] at g1
          rw [hvs] at g2
          by_cases k2 : k - as.length < rest.length
          · rw [List.getElem?_append_left k2] at g1
            rw [Array.getElem?_append_left (by simp; omega)] at g2
            exact hat _ r v g1 (by simpa using g2)
          · rw [List.getElem?_append_right (by omega)] at g1
            rw [Array.getElem?_append_right (by simp; omega)] at g2
            simp only [List.getElem?_map, Option.map_eq_some_iff] at g1
            obtain ⟨p, hp, rfl⟩ := g1
            simp only [Array.size_map] at g2
            rw [← hl] at g2
            exact .p (hv2 _ p v hp g2)
    · rename_i f as bs rest
      obtain ⟨h1, h2⟩ := Args.tail hargs
      have hxv : ∃ vs us, a.eval x = .func (.func f) vs us ∧ vs.size = as.length ∧ us.size = bs.length ∧ (∀ (k : Nat) p v, as[k]? = some p → vs[k]? = some v → FRep (FX X ow S.toks) w ow S.toks p v) ∧ ∀ (k : Nat) p v, bs[k]? = some p → us[k]? = some v → FRep (FX X ow S.toks) w ow S.toks p v := by
        rcases h1 with ⟨d, off, β, hq, _⟩ | h1
        · cases hq
        · generalize a.eval x = v at h1
          cases h1 with | fn f xs ys vs us hv hu h h' => exact ⟨vs, us, rfl, hv, hu, h, h'⟩
      obtain ⟨vs, us, hxe, hvs, hus, hv1, hv2⟩ := hxv
      have hl := h2.len
      simp at hl
      refine call f _ (vs ++ args.map a.eval ++ us) ?_ (by simp [hvs, hus, hl]) ?_ rfl h.2
      · simp only [execOp, hop, resolve]
        rw [hxe]
        simp [Deferred.ofValue, invoke]
      · intro k r v g1 g2
        have hat := argsAt h2 h.1
        by_cases k1 : k < as.length
        · rw [List.append_assoc, List.getElem?_append_left k1] at g1
          rw [Array.append_assoc, Array.getElem?_append_left (by omega)] at g2
          exact hv1 k r v g1 g2
        · rw [List.append_assoc, List.getElem?_append_right (by omega)] at g1
          rw [Array.append_assoc, Array.getElem?_append_right (by omega)] at g2
          rw [hvs] at g2
          by_cases k2 : k - as.length < rest.length
          · rw [List.getElem?_append_left k2] at g1
            rw [Array.getElem?_append_left (by simp; omega)] at g2
            exact hat _ r v g1 (by simpa using g2)
          · rw [List.getElem?_append_right (by omega)] at g1
            rw [Array.getElem?_append_right (by simp; omega)] at g2
            simp only [Array.size_map] at g2
            rw [← hl] at g2
            exact hv2 _ r v g1 g2
    · exact h.elim
  · split at ht
    · rename_i x ht2
      obtain ⟨io, xs'⟩ := x
      cases ht
      simp only [actWp] at h
      split at h
      · rename_i r S' hop'
        simp only [opA] at hop'
        obtain ⟨n, v, ow', w', h1, h2, h3, h4, h5, h6⟩ := y_sound (P := P) hM (ρ := a.eval) (fun v => rfl) ht2 hargs hop'
        unfold Oper.wp
        rw [h1]
        rcases h2 with rfl | ⟨rfl, rfl⟩
        · exact hk r S' ow' v w' h h3 h4 (fun β d hb _ => h5 β d hb (by simp)) h6
        · exact hk r S' ow' undef w' h h3 h4 (fun β d hb _ => h5 β d hb (by simp)) h6
      · exact h.elim
    split at ht
    case h_2 =>
      split at ht
      case h_2 => cases ht; exact h.elim
      rename_i x ht2
      obtain ⟨io, xs'⟩ := x
      cases ht
      simp only [actWp] at h
      split at h
      · rename_i r S' hop'
        simp only [opA] at hop'
        obtain ⟨n, v, ow', w', h1, h2, h3, h4, h5, h6⟩ := x_sound (P := P) hM ht2 hargs hop'
        unfold Oper.wp
        rw [h1]
        rcases h2 with rfl | ⟨rfl, rfl⟩
        · exact hk r S' ow' v w' h h3 h4 (fun β d hb _ => h5 β d hb (by simp)) h6
        · exact hk r S' ow' undef w' h h3 h4 (fun β d hb _ => h5 β d hb (by simp)) h6
      · exact h.elim
    rename_i x ht2
    obtain ⟨io, xs'⟩ := x
    cases ht
    have ht := ht2
    simp only [actWp] at h
    split at h
    · rename_i r S' hop
      obtain ⟨n, v, ow', w', h1, h2, h3, h4, h5, h6⟩ := op_sound (P := P) hM ht hargs hop
      unfold Oper.wp
      rw [h1]
      rcases h2 with rfl | ⟨rfl, rfl⟩
      · exact hk r S' ow' v w' h h3 h4 h5 h6
      · exact hk r S' ow' undef w' h h3 h4 h5 h6
    · exact h.elim

theorem args_rep {xs : List Operand} {ys : List Xp} {e : Env} {a : Act} (he : ERel X ow S w e a.tmps) (hx : mapO opnd xs = some ys) : Args (FX X ow S.toks) w ow S.toks a.eval xs (ys.map (·.ev e)) := by
  obtain ⟨i1, i2⟩ := mapO_get hx
  refine ⟨by simp [i1], fun k x r h1 h2 => ?_⟩
  simp only [List.getElem?_map, Option.map_eq_some_iff] at h2
  obtain ⟨y, hy, rfl⟩ := h2
  obtain ⟨x', h3, h4⟩ := i2 k y hy
  rw [h1] at h3
  cases h3
  exact opnd_rep he h4

theorem trOper_spec {hn : Hint} {n : Nat} {ops : Array Oper} {o : Oper} {io : IOper} (h : trOper P hn n ops o = some io) :
    ∃ xs, trAct P hn o = some (io.act, xs) ∧ mapO opnd xs = some io.args ∧ guardOf ops o = some io.guard ∧ io.dst = o.dst ∧ dstOk n o.dst = true := by
  unfold trOper at h
  split at h
  · rename_i a xs g h1 h2
    split at h
    · rename_i ys h3
      split at h
      · rename_i h4; cases h; exact ⟨xs, h1, h3, h2, rfl, h4⟩
      · cases h
    · cases h
  · cases h

/-- The guards' slots are slots. -/
def guardsOk (n : Nat) (l : List IOper) : Bool := l.all fun o => match o.guard with | some (t, _) => decide (t < n) | none => true

theorem put_size (a : Act) (d : Option Tmp) (v : Value) : (a.put d v).tmps.size = a.tmps.size := by cases d <;> simp [Act.put]
theorem put_defers (a : Act) (d : Option Tmp) (v : Value) : (a.put d v).defers = a.defers := by cases d <;> rfl
theorem put_tmps (a : Act) (d : Option Tmp) (v : Value) : (a.put d v).tmps = match d with | some d => a.tmps.setIfInBounds d v | none => a.tmps := by cases d <;> rfl

theorem SRel.put {n e a ow' S' w'} (h : SRel X n ow S w e a) (hM : MRel X ow' S' w') (tr : Tr X ow S.toks w ow' S'.toks w') {D : Option Nat}
    (hl : ∀ β d, ow β = some (.loc d) → some d ≠ D → ow' β = some (.loc d)) {dst : Option Nat} (hd : dstOk n dst = true) {r : RV} {v : Value}
    (hr : RRep (FX X ow' S'.toks) w' ow' S'.toks r v) : SRel X n ow' S' w' (setO dst (strikeO D e) r) (a.put dst v) :=
  ⟨by rw [put_defers]; exact h.defers, by rw [put_size]; exact h.size, by rw [put_tmps]; exact h.env.put tr hl (by rw [h.size]; exact hd) hr, hM⟩

theorem ops_sound {hn : Hint} {n : Nat} {ops : Array Oper} {K : Env → Mem → Prop} {Q : Exit → Act → World → Prop} :
    ∀ (idx : List Nat) (l : List IOper), mapO (fun i => (ops[i]?).bind (trOper P hn n ops)) idx = some l → guardsOk n l = true →
    ∀ (ow : Ow) (S : Mem) (w : World) (e : Env) (a : Act), SRel X n ow S w e a → opsWp P l K e S →
      (∀ ow' S' w' e' a', K e' S' → SRel X n ow' S' w' e' a' → Tr X ow S.toks w ow' S'.toks w' → Q .normal a' w') → wpOps P ops Q idx a w
  | [], l, hl, _, ow, S, w, e, a, hs, h, hq => by
    simp [mapO] at hl
    subst hl
    exact hq ow S w e a h hs (Tr.refl _ _ _ _)
  | i :: idx, l, hl, hg, ow, S, w, e, a, hs, h, hq => by
    simp only [mapO] at hl
    split at hl
    · rename_i io l' h1 h2
      cases hl
      simp only [Option.bind_eq_some_iff] at h1
      obtain ⟨o, ho, hto⟩ := h1
      obtain ⟨xs, t1, t2, t3, t4, t5⟩ := trOper_spec hto
      have hg' : guardsOk n l' = true := by simp [guardsOk] at hg ⊢; exact hg.2
      have hgl : ∀ t b, io.guard = some (t, b) → t < n := by
        intro t b heq
        simp only [guardsOk, List.all_cons, Bool.and_eq_true] at hg
        have := hg.1
        rw [heq] at this
        simpa using this
      simp only [opsWp] at h
      simp only [wpOps, ho]
      split at h
      · rename_i hgv
        rw [guard_sound t3 (fun t b _ => hs.env t) hgv n hs.size hgl]
        simp only [if_true]
        left
        refine act_sound hs.mem t1 (args_rep hs.env t2) h (fun r S' ow' v w' hK hM tr hlo hr => ?_)
        have hs' := hs.put hM tr hlo (dst := o.dst) t5 hr
        rw [t4] at hK
        exact ops_sound idx l' h2 hg' ow' S' w' _ _ hs' hK (fun ow2 S2 w2 e2 a2 k1 k2 k3 => hq ow2 S2 w2 e2 a2 k1 k2 (tr.trans k3))
      · rename_i hgv
        rw [guard_sound t3 (fun t b _ => hs.env t) hgv n hs.size hgl]
        simp only [Bool.false_eq_true, if_false]
        have hr : RRep (FX X ow S.toks) w ow S.toks (.tup []) undef := .inr (.tup [] #[] rfl (by simp))
        have hs' := hs.put (D := none) hs.mem (Tr.refl _ _ _ _) (fun _ _ h _ => h) (dst := o.dst) t5 hr
        rw [t4] at h
        exact ops_sound idx l' h2 hg' ow S w _ _ hs' h hq
      · exact h.elim
    · cases hl

end
end Go.Ag
/- An abstract machine for Go functions, seventeenth part: regions that leave their order open. -/
namespace Go.Ag
open Go
set_option linter.unusedVariables false
set_option linter.unusedSimpArgs false
section
variable {P : Program} {X : Cells} {ow : Ow} {S : Mem} {w : World}

/-! ### What comes first -/
theorem lor_bit (a b i : Nat) : (a ||| b).testBit i = (a.testBit i || b.testBit i) := Nat.testBit_or a b i
theorem pow_bit (k i : Nat) : (2 ^ k).testBit i = decide (k = i) := Nat.testBit_two_pow

theorem fold_bit (acc : Array Nat) : ∀ (l : List Edge) (s i : Nat), (l.foldl (fun s e => if Region.binds .any e then s ||| 2 ^ e.on ||| acc.getD e.on 0 else s) s).testBit i = true →
    s.testBit i = true ∨ ∃ e ∈ l, Region.binds .any e = true ∧ (e.on = i ∨ (acc.getD e.on 0).testBit i = true)
  | [], s, i, h => .inl h
  | e :: l, s, i, h => by
    simp only [List.foldl_cons] at h
    rcases fold_bit acc l _ i h with h1 | ⟨e', he', hb, hi⟩
    · split at h1
      · rename_i hb
        rw [lor_bit, lor_bit, pow_bit] at h1
        simp only [Bool.or_eq_true, decide_eq_true_eq] at h1
        rcases h1 with (h1 | h1) | h1
        · exact .inl h1
        · exact .inr ⟨e, by simp, hb, .inl h1⟩
        · exact .inr ⟨e, by simp, hb, .inr h1⟩
      · exact .inl h1
    · exact .inr ⟨e', by simp [he'], hb, hi⟩

theorem before_go : ∀ (l : List Oper) (acc : Array Nat), ∃ out : List Nat, (l.foldl (fun acc (o : Oper) => acc.push (o.after.foldl (fun s e => if Region.binds .any e then s ||| 2 ^ e.on ||| acc.getD e.on 0 else s) 0)) acc).toList = acc.toList ++ out ∧ out.length = l.length ∧
    ∀ j o, l[j]? = some o → ∀ i, ((acc.toList ++ out)[acc.size + j]?.getD 0).testBit i = true → ∃ e ∈ o.after, Region.binds .any e = true ∧ (e.on = i ∨ (((acc.toList ++ out)[e.on]?).getD 0).testBit i = true)
  | [], acc => ⟨[], by simp, rfl, by simp⟩
  | o :: l, acc => by
    simp only [List.foldl_cons]
    generalize hs : o.after.foldl (fun s e => if Region.binds .any e then s ||| 2 ^ e.on ||| acc.getD e.on 0 else s) 0 = s
    obtain ⟨out, h1, h2, h3⟩ := before_go l (acc.push s)
    refine ⟨s :: out, by rw [h1]; simp, by simp [h2], fun j o' hj i hi => ?_⟩
    cases j with
    | zero =>
      simp at hj
      subst hj
      simp only [Nat.add_zero] at hi
      rw [List.getElem?_append_right (by simp)] at hi
      simp at hi
      subst hs
      rw [← Array.foldl_toList] at hi
      rcases fold_bit acc o.after.toList 0 i hi with h | ⟨e, he, hb, hc⟩
      · simp at h
      · refine ⟨e, by simpa using he, hb, hc.imp id fun hc => ?_⟩
        by_cases hlt : e.on < acc.size
        · rw [List.getElem?_append_left (by simpa using hlt)]
          simpa [Array.getD_eq_getD_getElem?] using hc
        · simp [Array.getD_eq_getD_getElem?, Array.getElem?_eq_none (Nat.le_of_not_lt hlt)] at hc
    | succ j =>
      have := h3 j o' (by simpa using hj) i (by
        have e : (acc.push s).size + j = acc.size + (j + 1) := by simp; omega
        rw [e]
        simpa using hi)
      simpa using this

/-- What is marked as coming first is an edge, or comes before an edge. -/
theorem before_spec (ops : Array Oper) {j : Nat} {o : Oper} (ho : ops[j]? = some o) {i : Nat} (h : ((Region.before ops).getD j 0).testBit i = true) :
    ∃ e ∈ o.after, Region.binds .any e = true ∧ (e.on = i ∨ ((Region.before ops).getD e.on 0).testBit i = true) := by
  obtain ⟨out, h1, h2, h3⟩ := before_go ops.toList #[]
  have e : (Region.before ops).toList = out := by
    unfold Region.before
    rw [← Array.foldl_toList]
    simpa using h1
  have g : ∀ k, (Region.before ops).getD k 0 = (out[k]?).getD 0 := by
    intro k
    rw [← e]
    simp [Array.getD_eq_getD_getElem?]
  simp only [g] at h ⊢
  have := h3 j o (by simpa using ho) i (by simpa using h)
  simpa using this

theorem okPairs_spec {bef : Array Nat} : ∀ {l : List IOper} {i0 : Nat}, okPairs bef l i0 = true → ∀ i j a b, i < j → l[i]? = some a → l[j]? = some b → tangled a b = true → (bef.getD (i0 + j) 0).testBit (i0 + i) = true
  | [], i0, _, i, j, a, b, _, ha, _, _ => by simp at ha
  | o :: os, i0, h, i, j, a, b, hij, ha, hb, ht => by
    simp only [okPairs, Bool.and_eq_true, List.all_eq_true] at h
    cases j with
    | zero => omega
    | succ j =>
      simp only [List.getElem?_cons_succ] at hb
      cases i with
      | zero =>
        simp at ha
        subst ha
        have hm : (b, i0 + 1 + j) ∈ os.zipIdx (i0 + 1) := by
          have : (os.zipIdx (i0 + 1))[j]? = some (b, i0 + 1 + j) := by simp [hb]
          exact List.mem_of_getElem? this
        have := h.1 _ hm
        simp only [ht, Bool.not_true, Bool.false_or] at this
        rw [show i0 + (j + 1) = i0 + 1 + j by omega]
        simpa using this
      | succ i =>
        have := okPairs_spec h.2 i j a b (by omega) (by simpa using ha) hb ht
        rw [show i0 + (j + 1) = i0 + 1 + j by omega, show i0 + (i + 1) = i0 + 1 + i by omega]
        exact this

/-! ### The values, the memory, as far as operations have come up -/
def eL (L : Nat → Bool) (dst : Nat → Option Nat) (c : Nat → RV) (e0 : Nat → RV) : Nat → Nat → RV
  | 0, t => e0 t
  | k + 1, t => if L k = true ∧ dst k = some t then c k else eL L dst c e0 k t
def iL (L : Nat → Bool) (wr : Nat → Bool) : Nat → Nat
  | 0 => 0
  | k + 1 => if L k = true ∧ wr k = true then k + 1 else iL L wr k
def unL (L : Nat → Bool) : Nat → Nat
  | 0 => 0
  | k + 1 => unL L k + if L k = true then 0 else 1

theorem eL_look {L dst c e0} {N j t : Nat} (hj : j ≤ N) (h1 : ∀ i, i < j → dst i = some t → L i = true) (h2 : ∀ i, j ≤ i → i < N → dst i = some t → L i = false) :
    eL L dst c e0 N t = eL (fun _ => true) dst c e0 j t := by
  have a : ∀ k, k ≤ j → eL L dst c e0 k t = eL (fun _ => true) dst c e0 k t := by
    intro k
    induction k with
    | zero => intro _; rfl
    | succ k ih =>
      intro hk
      simp only [eL]
      by_cases hd : dst k = some t
      · simp [hd, h1 k (by omega) hd]
      · simp [hd, ih (by omega)]
  have b : ∀ k, j ≤ k → k ≤ N → eL L dst c e0 k t = eL L dst c e0 j t := by
    intro k
    induction k with
    | zero => intro h _; have : j = 0 := by omega
              subst this; rfl
    | succ k ih =>
      intro hk hN
      by_cases hjk : j = k + 1
      · subst hjk; rfl
      · simp only [eL]
        rw [if_neg (fun ⟨x, y⟩ => by rw [h2 k (by omega) (by omega) y] at x; cases x), ih (by omega) (by omega)]
  rw [b N hj (Nat.le_refl _), a j (Nat.le_refl _)]

theorem iL_look {L wr} {st : Nat → Mem} {N j : Nat} (hj : j ≤ N) (hst : ∀ i, i < N → wr i = false → st (i + 1) = st i) (h1 : ∀ i, i < j → wr i = true → L i = true) (h2 : ∀ i, j ≤ i → i < N → wr i = true → L i = false) :
    st (iL L wr N) = st j := by
  have a : ∀ k, k ≤ j → st (iL L wr k) = st k := by
    intro k
    induction k with
    | zero => intro _; rfl
    | succ k ih =>
      intro hk
      simp only [iL]
      by_cases hw : wr k = true
      · rw [if_pos ⟨h1 k (by omega) hw, hw⟩]
      · rw [if_neg (fun ⟨_, y⟩ => hw y), ih (by omega), hst k (by omega) (by simpa using hw)]
  have b : ∀ k, j ≤ k → k ≤ N → iL L wr k = iL L wr j := by
    intro k
    induction k with
    | zero => intro h _; have : j = 0 := by omega
              subst this; rfl
    | succ k ih =>
      intro hk hN
      by_cases hjk : j = k + 1
      · subst hjk; rfl
      · simp only [iL]
        rw [if_neg (fun ⟨x, y⟩ => by rw [h2 k (by omega) (by omega) y] at x; cases x), ih (by omega) (by omega)]
  rw [b N hj (Nat.le_refl _), a j (Nat.le_refl _)]

def setL (L : Nat → Bool) (j : Nat) : Nat → Bool := fun i => if i = j then true else L i
theorem eL_set {L dst c e0} {N j t : Nat} (hj : j < N) (hL : L j = false) (h : dst j = some t → ∀ i, j < i → i < N → dst i = some t → L i = false) :
    eL (setL L j) dst c e0 N t = if dst j = some t then c j else eL L dst c e0 N t := by
  have a : ∀ k, k ≤ j → eL (setL L j) dst c e0 k t = eL L dst c e0 k t := by
    intro k
    induction k with
    | zero => intro _; rfl
    | succ k ih =>
      intro hk
      simp only [eL, setL, if_neg (show ¬ k = j by omega), ih (by omega)]
  have b : ∀ k, j + 1 ≤ k → k ≤ N → eL (setL L j) dst c e0 k t = if dst j = some t then c j else eL L dst c e0 k t := by
    intro k
    induction k with
    | zero => intro h _; omega
    | succ k ih =>
      intro hk hN
      by_cases hjk : j = k
      · subst hjk
        simp only [eL, setL, if_true, true_and, hL, Bool.false_eq_true, false_and, if_false, a j (Nat.le_refl _)]
      · simp only [eL, setL, if_neg (show ¬ k = j by omega), ih (by omega) (by omega)]
        by_cases hd : dst j = some t
        · rw [if_pos hd, if_pos hd]
          rw [if_neg (fun ⟨x, y⟩ => by rw [h hd k (by omega) (by omega) y] at x; cases x)]
        · simp only [hd, if_false]
  exact b N hj (Nat.le_refl _)
theorem iL_set {L wr} {N j : Nat} (hj : j < N) (hL : L j = false) (h : wr j = true → ∀ i, j < i → i < N → wr i = true → L i = false) :
    iL (setL L j) wr N = if wr j = true then j + 1 else iL L wr N := by
  have a : ∀ k, k ≤ j → iL (setL L j) wr k = iL L wr k := by
    intro k
    induction k with
    | zero => intro _; rfl
    | succ k ih =>
      intro hk
      simp only [iL, setL, if_neg (show ¬ k = j by omega), ih (by omega)]
  have b : ∀ k, j + 1 ≤ k → k ≤ N → iL (setL L j) wr k = if wr j = true then j + 1 else iL L wr k := by
    intro k
    induction k with
    | zero => intro h _; omega
    | succ k ih =>
      intro hk hN
      by_cases hjk : j = k
      · subst hjk
        simp only [iL, setL, if_true, true_and, hL, Bool.false_eq_true, false_and, if_false, a j (Nat.le_refl _)]
      · simp only [iL, setL, if_neg (show ¬ k = j by omega), ih (by omega) (by omega)]
        by_cases hd : wr j = true
        · rw [if_pos hd, if_pos hd]
          rw [if_neg (fun ⟨x, y⟩ => by rw [h hd k (by omega) (by omega) y] at x; cases x)]
        · rw [if_neg hd, if_neg hd]
  exact b N hj (Nat.le_refl _)
theorem unL_set {L} {N j : Nat} (hj : j < N) (hL : L j = false) : unL (setL L j) N + 1 = unL L N := by
  have a : ∀ k, k ≤ j → unL (setL L j) k = unL L k := by
    intro k
    induction k with
    | zero => intro _; rfl
    | succ k ih =>
      intro hk
      simp only [unL, setL, if_neg (show ¬ k = j by omega), ih (by omega)]
  have b : ∀ k, j + 1 ≤ k → k ≤ N → unL (setL L j) k + 1 = unL L k := by
    intro k
    induction k with
    | zero => intro h _; omega
    | succ k ih =>
      intro hk hN
      by_cases hjk : j = k
      · subst hjk
        simp only [unL, setL, if_true, hL, Bool.false_eq_true, if_false, a j (Nat.le_refl _)]
      · simp only [unL, setL, if_neg (show ¬ k = j by omega)]
        have := ih (by omega) (by omega)
        omega
  exact b N hj (Nat.le_refl _)
theorem unL_zero {L} : ∀ {N : Nat}, unL L N = 0 → ∀ i, i < N → L i = true
  | 0, _, i, hi => by omega
  | N + 1, h, i, hi => by
    simp only [unL] at h
    by_cases hN : L N = true
    · by_cases hiN : i = N
      · subst hiN; exact hN
      · rw [if_pos hN] at h
        exact unL_zero (N := N) (by omega) i (by omega)
    · rw [if_neg hN] at h; omega

/-! ### The canonical run -/
def valsOf (E : Nat → Env) (io : IOper) (i : Nat) : List RV := io.args.map (·.ev (E i))
def RunAt (P : Program) (l : List IOper) (c : Nat → RV) (st : Nat → Mem) (E : Nat → Env) : Prop :=
  ∀ i io, l[i]? = some io → E (i + 1) = setO io.dst (E i) (c i) ∧
      ((guardV io.guard (E i) = some true ∧ actD P io.act (valsOf E io i) (st i) (c i) (st (i + 1))) ∨ (guardV io.guard (E i) = some false ∧ c i = .tup [] ∧ st (i + 1) = st i))
def StabAt (un : List (Nat × Nat)) (l : List IOper) (i0 : Nat) (h : List Came) (c : Nat → RV) (st : Nat → Mem) (E : Nat → Env) : Prop :=
  ∀ j io, l[j]? = some io → guardV io.guard (E j) = some true →
    (∀ x ∈ h, stab un x (i0 + j) io.act (valsOf E io j) (c j) (st j) (st (j + 1))) ∧
    ∀ i io', i < j → l[i]? = some io' → guardV io'.guard (E i) = some true → stab un ⟨i0 + i, io'.act, valsOf E io' i, c i, st i⟩ (i0 + j) io.act (valsOf E io j) (c j) (st j) (st (j + 1))
theorem dWp_run {un : List (Nat × Nat)} : ∀ (l : List IOper) (i0 : Nat) (h : List Came) (K : Env → Mem → Prop) (e : Env) (S : Mem), dWp P un i0 h l K e S →
    ∃ (c : Nat → RV) (st : Nat → Mem) (E : Nat → Env), E 0 = e ∧ st 0 = S ∧ K (E l.length) (st l.length) ∧ RunAt P l c st E ∧ StabAt un l i0 h c st E
  | [], i0, h, K, e, S, hw => ⟨fun _ => .top, fun _ => S, fun _ => e, rfl, rfl, hw, by intro i io hi; simp at hi, by intro i io hi; simp at hi⟩
  | o :: os, i0, h, K, e, S, hw => by
    simp only [dWp] at hw
    split at hw
    · rename_i hg
      obtain ⟨r, S', h1, hs, h2⟩ := hw
      obtain ⟨c, st, E, g1, g2, g3, g4, g5⟩ := dWp_run os (i0 + 1) _ K _ _ h2
      refine ⟨fun i => match i with | 0 => r | i + 1 => c i, fun i => match i with | 0 => S | i + 1 => st i, fun i => match i with | 0 => e | i + 1 => E i, rfl, rfl, g3, fun i io hi => ?_, fun j io hj hgj => ?_⟩
      · cases i with
        | zero =>
          simp at hi
          subst hi
          refine ⟨g1, .inl ⟨hg, ?_⟩⟩
          show actD P _ _ S r (st 0)
          rw [g2]
          exact h1
        | succ i => exact g4 i io (by simpa using hi)
      · cases j with
        | zero =>
          simp at hj
          subst hj
          refine ⟨fun x hx => ?_, fun i io' hi => by omega⟩
          show stab un x (i0 + 0) _ _ r S (st 0)
          rw [g2]
          exact hs x hx
        | succ j =>
          obtain ⟨k1, k2⟩ := g5 j io (by simpa using hj) hgj
          rw [show i0 + 1 + j = i0 + (j + 1) by omega] at k1 k2
          refine ⟨fun x hx => k1 x (by simp [hx]), fun i io' hij hi hgi => ?_⟩
          cases i with
          | zero =>
            simp at hi
            subst hi
            exact k1 _ (by simp [valsOf])
          | succ i =>
            have := k2 i io' (by omega) (by simpa using hi) hgi
            rw [show i0 + 1 + i = i0 + (i + 1) by omega] at this
            exact this
    · rename_i hg
      obtain ⟨c, st, E, g1, g2, g3, g4, g5⟩ := dWp_run os (i0 + 1) _ K _ _ hw
      refine ⟨fun i => match i with | 0 => .tup [] | i + 1 => c i, fun i => match i with | 0 => S | i + 1 => st i, fun i => match i with | 0 => e | i + 1 => E i, rfl, rfl, g3, fun i io hi => ?_, fun j io hj hgj => ?_⟩
      · cases i with
        | zero =>
          simp at hi
          subst hi
          refine ⟨g1, .inr ⟨hg, rfl, ?_⟩⟩
          show st 0 = S
          exact g2
        | succ i => exact g4 i io (by simpa using hi)
      · cases j with
        | zero =>
          simp at hj
          subst hj
          have : guardV o.guard e = some true := hgj
          rw [hg] at this
          cases this
        | succ j =>
          obtain ⟨k1, k2⟩ := g5 j io (by simpa using hj) hgj
          rw [show i0 + 1 + j = i0 + (j + 1) by omega] at k1 k2
          refine ⟨k1, fun i io' hij hi hgi => ?_⟩
          cases i with
          | zero =>
            simp at hi
            subst hi
            have : guardV o.guard e = some true := hgi
            rw [hg] at this
            cases this
          | succ i =>
            have := k2 i io' (by omega) (by simpa using hi) hgi
            rw [show i0 + 1 + i = i0 + (i + 1) by omega] at this
            exact this
    · exact hw.elim

theorem unPairs_spec {bef : Array Nat} : ∀ {l : List IOper} {i0 : Nat}, ∀ i j a b, i < j → l[i]? = some a → l[j]? = some b → soft a.act.cls b.act.cls = true → (bef.getD (i0 + j) 0).testBit (i0 + i) = false → (unPairs bef l i0).contains (i0 + i, i0 + j) = true
  | [], i0, i, j, a, b, _, ha, _, _, _ => by simp at ha
  | o :: os, i0, i, j, a, b, hij, ha, hb, ht, hbit => by
    simp only [unPairs]
    rw [List.contains_iff_mem, List.mem_append]
    cases j with
    | zero => omega
    | succ j =>
      simp only [List.getElem?_cons_succ] at hb
      cases i with
      | zero =>
        simp at ha
        subst ha
        left
        refine List.mem_map.2 ⟨(b, i0 + 1 + j), List.mem_filter.2 ⟨?_, ?_⟩, by simp; omega⟩
        · have : (os.zipIdx (i0 + 1))[j]? = some (b, i0 + 1 + j) := by simp [hb]
          exact List.mem_of_getElem? this
        · rw [show i0 + (j + 1) = i0 + 1 + j by omega, Nat.add_zero] at hbit
          have hbit' : (bef.getD (i0 + 1 + j) 0).testBit i0 = false := hbit
          simp only [ht, hbit', Bool.true_and, Bool.not_false]
      | succ i =>
        right
        rw [show i0 + (j + 1) = i0 + 1 + j by omega, show i0 + (i + 1) = i0 + 1 + i by omega] at hbit ⊢
        have := unPairs_spec (bef := bef) (l := os) (i0 := i0 + 1) i j a b (by omega) (by simpa using ha) hb ht hbit
        rwa [List.contains_iff_mem] at this

theorem iL_cases (L wr : Nat → Bool) : ∀ N, (iL L wr N = 0 ∧ ∀ i, i < N → ¬ (L i = true ∧ wr i = true)) ∨ ∃ k, k < N ∧ L k = true ∧ wr k = true ∧ iL L wr N = k + 1 ∧ ∀ i, k < i → i < N → ¬ (L i = true ∧ wr i = true)
  | 0 => .inl ⟨rfl, fun i hi => by omega⟩
  | N + 1 => by
    by_cases h : L N = true ∧ wr N = true
    · exact .inr ⟨N, by omega, h.1, h.2, by simp only [iL, if_pos h], fun i h1 h2 => by omega⟩
    · have e : iL L wr (N + 1) = iL L wr N := by simp only [iL, if_neg h]
      rcases iL_cases L wr N with ⟨h1, h2⟩ | ⟨k, h1, h2, h3, h4, h5⟩
      · refine .inl ⟨e.trans h1, fun i hi => ?_⟩
        by_cases hiN : i = N
        · subst hiN; exact h
        · exact h2 i (by omega)
      · refine .inr ⟨k, by omega, h2, h3, e.trans h4, fun i hk hi => ?_⟩
        by_cases hiN : i = N
        · subst hiN; exact h
        · exact h5 i hk (by omega)
/-- Between two places there is a write, or nothing has changed. -/
theorem st_same {wr : Nat → Bool} {st : Nat → Mem} {N : Nat} (hst : ∀ i, i < N → wr i = false → st (i + 1) = st i) : ∀ (d p : Nat), p + d ≤ N → (∃ k, p ≤ k ∧ k < p + d ∧ wr k = true ∧ st p = st k) ∨ st (p + d) = st p
  | 0, p, _ => .inr rfl
  | d + 1, p, h => by
    rcases st_same hst d p (by omega) with ⟨k, h1, h2, h3, h4⟩ | h1
    · exact .inl ⟨k, h1, by omega, h3, h4⟩
    · cases hw : wr (p + d) with
      | true => exact .inl ⟨p + d, by omega, by omega, hw, h1.symm⟩
      | false => exact .inr ((hst (p + d) (by omega) hw).trans h1)

/-! ### Operations that leave the memory as it is -/
def PureF (f : Mem → Option (RV × Mem)) : Prop := ∃ q : Option RV, ∀ S, f S = q.map fun r => (r, S)
theorem PureF.no : PureF fun _ => none := ⟨Option.none, fun _ => rfl⟩
theorem PureF.val (r : RV) : PureF fun S => some (r, S) := ⟨some r, fun _ => rfl⟩
theorem PureF.map {α : Type} (o : Option α) (g : α → RV) : PureF fun S => o.map fun y => (g y, S) := ⟨o.map g, fun S => by cases o <;> rfl⟩
theorem PureF.bind {α : Type} (o : Option α) {F : α → Mem → Option (RV × Mem)} (h : ∀ y, PureF (F y)) : PureF fun S => o.bind fun y => F y S := by
  cases o with
  | none => exact PureF.no
  | some y => exact h y
theorem PureF.ite {c : Prop} [Decidable c] {f g : Mem → Option (RV × Mem)} (hf : PureF f) (hg : PureF g) : PureF fun S => if c then f S else g S := by
  by_cases h : c
  · simp only [h, if_true]; exact hf
  · simp only [h, if_false]; exact hg

theorem opX_pure (o : XOp) (hc : o.cls = .pure) (vals : List RV) : PureF fun S => opX o vals S := by
  refine ⟨(opX o vals ⟨[], [], []⟩).map (·.1), fun S => ?_⟩
  unfold opX
  cases o <;> simp only [XOp.cls, reduceCtorEq] at hc
  all_goals
    split
  all_goals first
    | rfl
    | (simp [Function.comp_def]; done)
    | (simp_all; done)
    | (simp_all [Function.comp_def]; done)
    | (split <;> simp_all [Function.comp_def]; done)
theorem opX_read {o : XOp} (hc : o.cls = .read) {vals : List RV} {S S' : Mem} {r : RV} (h : opX o vals S = some (r, S')) : S' = S := by
  unfold opX at h
  cases o <;> simp only [XOp.cls, reduceCtorEq] at hc
  all_goals
    split at h
  all_goals first
    | (simp only [Option.map_eq_some_iff, Prod.mk.injEq] at h; obtain ⟨_, _, _, h⟩ := h; exact h.symm)
    | (cases h; done)
    | (rename_i heq; cases heq; done)
    | (rename_i heq _; cases heq; done)
    | (simp_all; done)
theorem opY_pure (o : YOp) (hc : o.cls = .pure) (vals : List RV) : PureF fun S => opY o vals S := by
  cases o <;> simp [YOp.cls, YOp.wr] at hc
  · refine ⟨(opY .s00 vals ⟨[], [], []⟩).map (·.1), fun S => ?_⟩
    rcases vals with _ | ⟨a, _ | ⟨b, vals⟩⟩
    · rfl
    · simp only [opY]
      cases lenA a <;> rfl
    · rfl
  · rename_i neg ks
    refine ⟨(opY (.eqs neg ks) vals ⟨[], [], []⟩).map (·.1), fun S => ?_⟩
    rcases vals with _ | ⟨a, _ | ⟨b, _ | ⟨c, vals⟩⟩⟩
    · rfl
    · rfl
    · simp only [opY]
      cases eqA neg ks a b <;> rfl
    · rfl
theorem opY_read {o : YOp} (hc : o.cls = .read) : False := by
  unfold YOp.cls at hc
  split at hc <;> cases hc
theorem binOk_pure {tk : TK} (hc : tk.cls = .pure) (a : RV) (S : Mem) : binOk tk a S = true := by
  cases tk <;> first | rfl | cases hc
theorem opA_pure (o : IOp) (hc : IAct.cls (.op o) = .pure) (vals : List RV) : PureF fun S => opA o vals S := by
  by_cases hx : ∃ x, o = .x x
  · obtain ⟨x, rfl⟩ := hx
    exact opX_pure x hc vals
  by_cases hy : ∃ y, o = .y y
  · obtain ⟨y, rfl⟩ := hy
    exact opY_pure y hc vals
  by_cases hb : ∃ b tk, o = .bin b tk
  · obtain ⟨b, tk, rfl⟩ := hb
    rcases vals with _ | ⟨x, _ | ⟨y, _ | ⟨z, vals⟩⟩⟩
    · exact PureF.no
    · exact PureF.no
    · have : (fun S => opA (.bin b tk) [x, y] S) = fun S => (binA b tk x y).map fun x => (.p x, S) := by
        funext S
        simp only [opA, binOk_pure hc, if_true]
      rw [this]
      exact PureF.map _ _
    · exact PureF.no
  rcases vals with _ | ⟨a, _ | ⟨b, _ | ⟨c, _ | ⟨d, vals⟩⟩⟩⟩ <;> cases o <;> simp only [IAct.cls, reduceCtorEq] at hc
  all_goals first
    | exact absurd ⟨_, rfl⟩ hx
    | exact absurd ⟨_, rfl⟩ hy
    | exact absurd ⟨_, _, rfl⟩ hb
    | skip
  all_goals simp only [opA]
  all_goals repeat' first
    | exact PureF.no
    | exact PureF.val _
    | exact PureF.map _ _
    | refine PureF.bind _ fun _ => ?_
    | refine PureF.ite ?_ ?_

theorem op_pure {o : IOp} (hc : IAct.cls (.op o) = .pure) {vals : List RV} {S S' : Mem} {r : RV} (h : opA o vals S = some (r, S')) : S' = S ∧ ∀ S2, opA o vals S2 = some (r, S2) := by
  obtain ⟨q, hq⟩ := opA_pure o hc vals
  simp only at hq
  rw [hq] at h
  cases q with
  | none => cases h
  | some y => cases h; exact ⟨rfl, fun S2 => hq S2⟩

theorem op_read {o : IOp} (hc : IAct.cls (.op o) = .read) {vals : List RV} {S S' : Mem} {r : RV} (h : opA o vals S = some (r, S')) : S' = S := by
  by_cases hx : ∃ x, o = .x x
  · obtain ⟨x, rfl⟩ := hx
    exact opX_read hc h
  by_cases hy : ∃ y, o = .y y
  · obtain ⟨y, rfl⟩ := hy
    exact (opY_read hc).elim
  by_cases hb : ∃ b tk, o = .bin b tk
  · obtain ⟨b, tk, rfl⟩ := hb
    rcases vals with _ | ⟨x, _ | ⟨y, _ | ⟨z, vals⟩⟩⟩ <;> simp only [opA, reduceCtorEq] at h
    split at h
    · simp only [Option.map_eq_some_iff, Prod.mk.injEq] at h
      obtain ⟨_, _, _, h⟩ := h
      exact h.symm
    · cases h
  rcases vals with _ | ⟨a, _ | ⟨b, vals⟩⟩ <;> cases o <;> simp only [IAct.cls, reduceCtorEq] at hc
  all_goals first
    | exact absurd ⟨_, rfl⟩ hx
    | exact absurd ⟨_, rfl⟩ hy
    | exact absurd ⟨_, _, rfl⟩ hb
    | skip
  all_goals simp only [opA, reduceCtorEq, Option.map_eq_some_iff, Option.bind_eq_some_iff, Prod.mk.injEq] at h
  · obtain ⟨_, _, _, _, _, h⟩ := h; exact h.symm
  · obtain ⟨_, _, _, h⟩ := h; exact h.symm

theorem act_pure {act : IAct} (hc : act.cls = .pure) {vals : List RV} {S S1 : Mem} {r : RV} (h : actP P act vals S fun r' S' => r' = r ∧ S' = S1) :
    S1 = S ∧ ∀ S2, actP P act vals S2 fun r' S' => r' = r ∧ S' = S2 := by
  cases act with
  | op o =>
    simp only [actP, actWp] at h ⊢
    split at h
    · rename_i r' S' ho
      obtain ⟨h1, h2⟩ := h
      obtain ⟨h3, h4⟩ := op_pure hc ho
      exact ⟨h2.symm.trans h3, fun S2 => by rw [h4 S2]; exact ⟨h1, rfl⟩⟩
    · exact h.elim
  | callP f =>
    simp only [actP, actWp] at h ⊢
    obtain ⟨pvs, r', h1, h2, h3, h4⟩ := h
    exact ⟨h4.symm, fun S2 => ⟨pvs, r', h1, h2, h3, by trivial⟩⟩
  | call f => cases hc
  | callv => cases hc
theorem act_read {act : IAct} (hc : act.cls = .read) {vals : List RV} {S S1 : Mem} {r : RV} (h : actP P act vals S fun r' S' => r' = r ∧ S' = S1) : S1 = S := by
  cases act with
  | op o =>
    simp only [actP, actWp] at h
    split at h
    · rename_i r' S' ho
      exact h.2.symm.trans (op_read hc ho)
    · exact h.elim
  | callP f => cases hc
  | call f => cases hc
  | callv => cases hc

theorem actWp_mono {act : IAct} {vals : List RV} {S : Mem} {K K' : RV → Mem → Prop} (h : actWp P act vals S K) (hk : ∀ r S', K r S' → K' r S') : actWp P act vals S K' := by
  unfold actWp at h ⊢
  split
  · simp only at h
    split at h
    · exact hk _ _ h
    · exact h.elim
  · exact ⟨h.1, h.2.mono hk⟩
  · rcases h with ⟨pvs, r, h1, h2, h3⟩ | h
    · exact .inl ⟨pvs, r, h1, h2, hk _ _ h3⟩
    · exact .inr ⟨h.1, h.2.mono hk⟩
  · simp only at h
    split at h
    · exact ⟨h.1, h.2.mono hk⟩
    · exact ⟨h.1, h.2.mono hk⟩
    · exact h.elim

/-! ### All orders -/
theorem Tr.drawn (X ow T) (w : World) (k : Nat) : Tr X ow T w ow T { w with drawn := k } where
  st := (St.refl _ _ : St _ w _ w)
  mem := fun _ _ h => .inr ⟨h, rfl⟩
  tl := Nat.le_refl _
  tok := fun t e z _ h => ⟨e, h, Nat.le_refl _, fun _ => rfl, fun _ _ _ a b => ⟨a, b⟩⟩
  fr := fun _ _ h => ⟨h, rfl⟩
  size := Nat.le_refl _
  os := rfl
  tape := rfl
  output := rfl
theorem MRel.drawn (h : MRel X ow S w) (k : Nat) : MRel X ow S { w with drawn := k } :=
  h.next (Tr.drawn X ow S.toks w k) h.inj h.bnd h.memlt h.toklt h.locin (fun _ h => h) (Nat.le_refl _) (fun b k h => .inl ⟨h, fun _ _ => rfl⟩) (fun d cs h => .inl ⟨h, fun _ a => ⟨a, rfl⟩⟩) (fun t e z h => .inl ⟨h, fun _ a => ⟨a, rfl⟩⟩)

theorem args_rep' {F : Cells} {T : List (Nat × Nat × Nat)} {xs : List Operand} {ys : List Xp} {e : Env} {a : Act} (he : ∀ t, t ∈ ys.flatMap Xp.slots → RRep F w ow T (e.get t) (a.tmps.getD t undef))
    (hx : mapO opnd xs = some ys) : Args F w ow T a.eval xs (ys.map (·.ev e)) := by
  obtain ⟨i1, i2⟩ := mapO_get hx
  refine ⟨by simp [i1], fun k x r h1 h2 => ?_⟩
  simp only [List.getElem?_map, Option.map_eq_some_iff] at h2
  obtain ⟨y, hy, rfl⟩ := h2
  obtain ⟨x', h3, h4⟩ := i2 k y hy
  rw [h1] at h3
  cases h3
  cases x with
  | tmp t =>
    simp [opnd] at h4
    subst h4
    exact he t (List.mem_flatMap.2 ⟨_, List.mem_of_getElem? hy, by simp [Xp.slots]⟩)
  | const v => simp [opnd] at h4; subst h4; exact .inr (ofValue_rep 3 v)
  | func f => simp [opnd] at h4; subst h4; exact .inr (.p (.fn f [] [] #[] #[] rfl rfl (by simp) (by simp)))
  | global g => simp [opnd] at h4; subst h4; exact .inr (.top _)

/-- How the state stands when the operations L have come up. -/
structure DInv (X : Cells) (n : Nat) (dst : Nat → Option Nat) (wr : Nat → Bool) (c : Nat → RV) (st : Nat → Mem) (e0 : Nat → RV) (N : Nat) (bef : Array Nat)
    (L : Nat → Bool) (ow : Ow) (w : World) (a : Act) : Prop where
  defers : a.defers = []
  size : a.tmps.size = n
  mem : MRel X ow (st (iL L wr N)) w
  env : ∀ t, RRep (FX X ow (st (iL L wr N)).toks) w ow (st (iL L wr N)).toks (eL L dst c e0 N t) (a.tmps.getD t undef)
  down : ∀ j, j < N → L j = true → ∀ i, (bef.getD j 0).testBit i = true → L i = true

theorem drawn_sound (hmix : P.follows .mixedOrders = true) {hn : Hint} {n : Nat} (ops : Array Oper) (l : List IOper) (id : Nat)
    (hl : mapO (trOper P hn n ops) ops.toList = some l) (hok : okD ops l = true) (hg : guardsOk n l = true) (K : Env → Mem → Prop) (Q : Exit → Act → World → Prop)
    (ow : Ow) (S : Mem) (w : World) (e : Env) (a : Act) (hs : SRel X n ow S w e a) (h : dWp P (unPairs (Region.before ops) l 0) 0 [] l K e S)
    (hq : ∀ ow' S' w' e' a', K e' S' → SRel X n ow' S' w' e' a' → Tr X ow S.toks w ow' S'.toks w' → Q .normal a' w') :
    (Code.region id ops true).wp P Q a w := by
  obtain ⟨c, st, E, hE0, hst0, hK, hrun, hstab⟩ := dWp_run l 0 [] K e S h
  obtain ⟨hlen, hget⟩ := mapO_get hl
  have hN : l.length = ops.size := by simpa using hlen
  simp only [okD, Bool.and_eq_true] at hok
  obtain ⟨hedge, hpair⟩ := hok
  generalize hdst : (fun i : Nat => (l[i]?).bind (fun io : IOper => io.dst)) = dst
  generalize hwr : (fun i : Nat => match l[i]? with | some (io : IOper) => io.act.cls == Cls.write && guardV io.guard (E i) == some true | none => false) = wr
  have hdst' : ∀ (i : Nat) (io : IOper), l[i]? = some io → dst i = io.dst := by intro i io hi; rw [← hdst]; simp [hi]
  have hwr' : ∀ (i : Nat) (io : IOper), l[i]? = some io → wr i = (io.act.cls == Cls.write && guardV io.guard (E i) == some true) := by intro i io hi; rw [← hwr]; simp [hi]
  have hdstN : ∀ (i t : Nat), dst i = some t → ∃ io : IOper, l[i]? = some io ∧ io.dst = some t := by
    intro i t hi; rw [← hdst] at hi; simp only [Option.bind_eq_some_iff] at hi; exact hi
  have hwrN : ∀ i : Nat, wr i = true → ∃ io : IOper, l[i]? = some io ∧ io.act.cls = .write ∧ guardV io.guard (E i) = some true := by
    intro i hi; rw [← hwr] at hi
    simp only at hi
    split at hi
    · rename_i io hio; exact ⟨io, hio, by simpa using hi⟩
    · cases hi
  have htang : ∀ (i j : Nat) (x y : IOper), i < j → l[i]? = some x → l[j]? = some y → tangled x y = true → ((Region.before ops).getD j 0).testBit i = true := by
    intro i j x y hij hi hj ht
    have := okPairs_spec hpair i j x y hij hi hj ht
    simpa using this
  have hstep : ∀ i, i < l.length → wr i = false → st (i + 1) = st i := by
    intro i hi hw
    have hio : l[i]? = some l[i] := by simp [hi]
    generalize l[i] = io at hio
    rw [hwr' i io hio] at hw
    obtain ⟨_, hr⟩ := hrun i io hio
    rcases hr with ⟨hgt, _, hr⟩ | ⟨_, _, hr⟩
    · cases hcl : io.act.cls with
      | pure => exact (act_pure hcl hr).1
      | read => exact act_read hcl hr
      | write => rw [hcl, hgt] at hw; simp at hw
    · exact hr
  have hEe : ∀ k, k ≤ l.length → ∀ t, (E k).get t = eL (fun _ => true) dst c (fun t => e.get t) k t := by
    intro k
    induction k with
    | zero => intro _ t; rw [hE0]; rfl
    | succ k ih =>
      intro hk t
      have hio : l[k]? = some l[k] := by simp [Nat.lt_of_succ_le hk]
      generalize l[k] = io at hio
      rw [(hrun k io hio).1]
      simp only [eL, true_and, hdst' k io hio]
      cases io.dst with
      | none => simp only [setO, reduceCtorEq, if_false]; exact ih (by omega) t
      | some d => simp only [setO, get_set, Option.some.injEq]; rw [ih (by omega) t]
  have main : ∀ (fuel : Nat) (listed : Array Bool) (ow1 : Ow) (w1 : World) (a1 : Act), listed.size = l.length → unL (fun i => listed.getD i false) l.length = fuel →
      DInv X n dst wr c st (fun t => e.get t) l.length (Region.before ops) (fun i => listed.getD i false) ow1 w1 a1 →
      Tr X ow S.toks w ow1 (st (iL (fun i => listed.getD i false) wr l.length)).toks w1 → wpAny P .any ops Q fuel listed a1 w1 := by
    intro fuel
    induction fuel with
    | zero =>
      intro listed ow1 w1 a1 hsz hf hI htr
      have hall := unL_zero hf
      refine ⟨?_, ?_⟩
      · rw [List.eq_nil_iff_forall_not_mem]
        intro i hi
        rw [mem_ready] at hi
        obtain ⟨h0, o, ho, _⟩ := hi
        have hlt : i < ops.size := (Array.getElem?_eq_some_iff.1 ho).1
        have := hall i (by omega)
        have hlt2 : i < listed.size := by omega
        simp [hlt2] at h0 this
        rw [h0] at this
        cases this
      · have e1 : st (iL (fun i => listed.getD i false) wr l.length) = st l.length := iL_look (Nat.le_refl _) hstep (fun i hi _ => hall i hi) (fun i h1 h2 => by omega)
        have hm := hI.mem
        have he := hI.env
        rw [e1] at hm he htr
        refine hq ow1 (st l.length) w1 (E l.length) a1 hK ⟨hI.defers, hI.size, fun t => ?_, hm⟩ htr
        rw [hEe _ (Nat.le_refl _) t, ← eL_look (Nat.le_refl _) (fun i hi _ => hall i hi) (fun i h1 h2 => by omega)]
        exact he t
    | succ fuel ih =>
      intro listed ow1 w1 a1 hsz hf hI htr
      refine ⟨fun hnil => ?_, fun j hj => ?_⟩
      · exfalso
        -- the first that has not come up is ready
        have hex : ∃ i, i < l.length ∧ listed.getD i false = false := by
          apply Classical.byContradiction
          intro hno
          have hz : ∀ k, k ≤ l.length → unL (fun i => listed.getD i false) k = 0 := by
            intro k
            induction k with
            | zero => intro _; rfl
            | succ k ihk =>
              intro hk
              simp only [unL]
              have : listed.getD k false = true := by
                cases hc : listed.getD k false with
                | true => rfl
                | false => exact absurd ⟨k, by omega, hc⟩ hno
              rw [ihk (by omega), if_pos this]
          have := hz _ (Nat.le_refl _)
          omega
        have hmin : ∀ m i, i ≤ m → i < l.length → listed.getD i false = false → False := by
          intro m
          induction m using Nat.strongRecOn with
          | _ m ihm =>
            intro i him hi hun
            have hlt : i < ops.size := by omega
            have ho : ops[i]? = some ops[i] := by simp [hlt]
            generalize ops[i] = o at ho
            have hnr : i ∉ Region.ready .any ops listed := by rw [hnil]; simp
            rw [mem_ready] at hnr
            refine hnr ⟨?_, o, ho, fun ed hed hb => ?_⟩
            · have : i < listed.size := by omega
              simp [this] at hun ⊢
              exact hun
            · simp only [okEdges, List.all_eq_true] at hedge
              have hmm : (o, i) ∈ ops.toList.zipIdx 0 := List.mem_of_getElem? (i := i) (by simp [ho])
              have := hedge _ hmm
              simp only [Array.all_eq_true_iff_forall_mem, hb, Bool.or_eq_true, Bool.not_eq_true', decide_eq_true_eq] at this
              have hlt2 : ed.on < i := by
                have := this ed hed
                rw [hb] at this
                simpa using this
              cases hc : listed.getD ed.on false with
              | true => rfl
              | false => exact (ihm ed.on (by omega) ed.on (Nat.le_refl _) (by omega) hc).elim
        obtain ⟨i, hi, hun⟩ := hex
        exact hmin i i (Nat.le_refl _) hi hun
      · rw [mem_ready] at hj
        obtain ⟨hun, o, ho, hedges⟩ := hj
        have hjlt : j < l.length := by have := (Array.getElem?_eq_some_iff.1 ho).1; omega
        have hjl2 : j < listed.size := by omega
        have hLj : listed.getD j false = false := by simp [hjl2] at hun ⊢; exact hun
        have hio : l[j]? = some l[j] := by simp [hjlt]
        generalize l[j] = io at hio
        obtain ⟨o', ho', hto⟩ := hget j io hio
        have hoo : o' = o := by
          have h1 : ops.toList[j]? = some o := by simpa using ho
          rw [h1] at ho'
          exact (Option.some.inj ho').symm
        subst hoo
        obtain ⟨xs, t1, t2, t3, t4, t5⟩ := trOper_spec hto
        -- what came before has come up, what comes after has not
        have hbefL : ∀ i, ((Region.before ops).getD j 0).testBit i = true → listed.getD i false = true := by
          intro i hi
          obtain ⟨ed, hed, hb, hc⟩ := before_spec ops ho hi
          rcases hc with rfl | hc
          · exact hedges ed hed hb
          · have h1 := hedges ed hed hb
            have : ed.on < l.length := by
              rcases Nat.lt_or_ge ed.on listed.size with h' | h'
              · omega
              · simp [Array.getElem?_eq_none h'] at h1
            exact hI.down ed.on this h1 i hc
        have hpre : ∀ (i : Nat) (x : IOper), i < j → l[i]? = some x → tangled x io = true → listed.getD i false = true := fun i x hij hi ht => hbefL i (htang i j x io hij hi hio ht)
        have hpost : ∀ (i : Nat) (x : IOper), j < i → i < l.length → l[i]? = some x → tangled io x = true → listed.getD i false = false := by
          intro i x hij hiN hi ht
          cases hc : listed.getD i false with
          | false => rfl
          | true =>
            have hjj : listed.getD j false = true := hI.down i hiN hc j (htang j i io x hij hio hi ht)
            rw [hLj] at hjj
            cases hjj
        -- the slots that are looked at
        have hslot : ∀ t, t ∈ io.looks → eL (fun i => listed.getD i false) dst c (fun t => e.get t) l.length t = (E j).get t := by
          intro t ht
          rw [hEe j (by omega) t]
          refine eL_look (by omega) (fun i hij hd => ?_) (fun i hji hiN hd => ?_)
          · obtain ⟨x, hx, hxd⟩ := hdstN i t hd
            refine hpre i x hij hx ?_
            simp only [tangled, Bool.or_eq_true]
            left; left; left
            simp [touch, hxd, ht]
          · by_cases hij : i = j
            · subst hij; exact hLj
            · obtain ⟨x, hx, hxd⟩ := hdstN i t hd
              refine hpost i x (by omega) hiN hx ?_
              simp only [tangled, Bool.or_eq_true]
              left; left; right
              simp [touch, hxd, ht]
        have hlooks : ∀ t, t ∈ io.looks → RRep (FX X ow1 (st (iL (fun i => listed.getD i false) wr l.length)).toks) w1 ow1 (st (iL (fun i => listed.getD i false) wr l.length)).toks ((E j).get t) (a1.tmps.getD t undef) := by
          intro t ht
          rw [← hslot t ht]
          exact hI.env t
        have hnow : io.act.cls = .write → st (iL (fun i => listed.getD i false) wr l.length) = st j := by
          intro hnp
          refine iL_look (by omega) hstep (fun i hij hw => ?_) (fun i hji hiN hw => ?_)
          · obtain ⟨x, hx, hxw, _⟩ := hwrN i hw
            refine hpre i x hij hx ?_
            simp only [tangled, Bool.or_eq_true]
            right
            simp [clash, hxw, hnp]
          · by_cases hij : i = j
            · subst hij; exact hLj
            · obtain ⟨x, hx, hxw, _⟩ := hwrN i hw
              refine hpost i x (by omega) hiN hx ?_
              simp only [tangled, Bool.or_eq_true]
              right
              simp [clash, hxw, hnp]
        have hgl : ∀ t b, io.guard = some (t, b) → t < n := by
          intro t b heq
          simp only [guardsOk, List.all_eq_true] at hg
          have := hg io (List.mem_of_getElem? hio)
          rw [heq] at this
          simpa using this
        have hgs : ∀ t b, io.guard = some (t, b) → t ∈ io.looks := by
          intro t b heq
          simp [IOper.looks, heq]
        have hguard : ∀ b, guardV io.guard (E j) = some b → Region.wanted o' (yielded ops a1.tmps) = b :=
          fun b hb => guard_sound t3 (fun t b h => hlooks t (hgs t b h)) hb n hI.size hgl
        -- where the operation leaves the state
        have hiLset : ∀ S1 : Mem, (wr j = true → S1 = st (j + 1)) → (wr j = false → S1 = st (iL (fun i => listed.getD i false) wr l.length)) →
            st (iL (fun i => (listed.setIfInBounds j true).getD i false) wr l.length) = S1 := by
          intro S1 hw1 hw2
          have hset : (fun i => (listed.setIfInBounds j true).getD i false) = setL (fun i => listed.getD i false) j := by
            funext i
            unfold setL
            by_cases hij : i = j
            · subst hij; simp [hjl2]
            · rw [if_neg hij]; exact getD_set_ne false (Ne.symm hij)
          rw [hset, iL_set hjlt hLj]
          · cases hcw : wr j with
            | true => rw [hw1 hcw]; rfl
            | false => rw [hw2 hcw]; rfl
          · intro hwj i hji hiN hwi
            obtain ⟨x, hx, hxw, _⟩ := hwrN i hwi
            rw [hwr' j io hio] at hwj
            refine hpost i x hji hiN hx ?_
            simp only [tangled, Bool.or_eq_true]
            right
            simp only [Bool.and_eq_true, beq_iff_eq] at hwj
            simp [clash, hxw, hwj.1]
        have hnext : ∀ (ow2 : Ow) (w2 : World) (v : Value) (S1 : Mem), (wr j = true → S1 = st (j + 1)) → (wr j = false → S1 = st (iL (fun i => listed.getD i false) wr l.length)) →
            MRel X ow2 S1 w2 → Tr X ow1 (st (iL (fun i => listed.getD i false) wr l.length)).toks w1 ow2 S1.toks w2 → (∀ β d, ow1 β = some (.loc d) → ow2 β = some (.loc d)) →
            RRep (FX X ow2 S1.toks) w2 ow2 S1.toks (c j) v → wpAny P .any ops Q fuel (listed.setIfInBounds j true) (a1.put o'.dst v) w2 := by
          intro ow2 w2 v S1 hw1 hw2 hM tr hlo hr
          have hS1 := hiLset S1 hw1 hw2
          have hset : (fun i => (listed.setIfInBounds j true).getD i false) = setL (fun i => listed.getD i false) j := by
            funext i
            unfold setL
            by_cases hij : i = j
            · subst hij; simp [hjl2]
            · rw [if_neg hij]; exact getD_set_ne false (Ne.symm hij)
          refine ih _ ow2 w2 _ (by simpa using hsz) ?_ ⟨by rw [put_defers]; exact hI.defers, by rw [put_size]; exact hI.size, by rw [hS1]; exact hM, ?_, ?_⟩ (by rw [hS1]; exact htr.trans tr)
          · rw [hset]
            have := unL_set (L := fun i => listed.getD i false) hjlt hLj
            omega
          · intro t
            rw [hS1, hset, eL_set hjlt hLj]
            · rw [hdst' j io hio, put_tmps, t4]
              cases hd : o'.dst with
              | none =>
                simp only [reduceCtorEq, if_false]
                exact (hI.env t).mono tr (fun β d o _ hh => hlo β d hh)
              | some d =>
                rw [hd] at t5
                have hd' : d < a1.tmps.size := by rw [hI.size]; simpa [dstOk] using t5
                simp only [Option.some.injEq]
                by_cases hdt : d = t
                · subst hdt
                  simp only [if_true]
                  simpa [hd'] using hr
                · rw [if_neg hdt]
                  have := (hI.env t).mono tr (fun β d o _ hh => hlo β d hh)
                  simpa [Array.getD_eq_getD_getElem?, Array.getElem?_setIfInBounds_ne hdt] using this
            · intro hdj i hji hiN hdi
              obtain ⟨x, hx, hxd⟩ := hdstN i t hdi
              refine hpost i x hji hiN hx ?_
              rw [hdst' j io hio] at hdj
              simp only [tangled, Bool.or_eq_true]
              left; right
              simp [hdj, hxd]
          · intro k hk hLk i hi
            have hLk' : setL (fun i => listed.getD i false) j k = true := by rw [← hset]; exact hLk
            show (fun i => (listed.setIfInBounds j true).getD i false) i = true
            rw [hset]
            simp only [setL] at hLk' ⊢
            split
            · rfl
            · by_cases hkj : k = j
              · subst hkj; exact hbefL i hi
              · rw [if_neg hkj] at hLk'
                exact hI.down k hk hLk' i hi
        obtain ⟨_, hr⟩ := hrun j io hio
        unfold wpOp
        rw [ho]
        simp only
        rcases hr with ⟨hgv, hdrop, hact⟩ | ⟨hgv, hcj, hsj⟩
        · rw [hguard true hgv]
          simp only [if_true]
          left
          have hwj : ∀ {b : Bool}, (io.act.cls == Cls.write) = b → wr j = b := by
            intro b hb
            rw [hwr' j io hio, hb, hgv]
            simp
          have hact2 : actWp P io.act (valsOf E io j) (st (iL (fun i => listed.getD i false) wr l.length))
              fun r' S' => r' = c j ∧ (wr j = true → S' = st (j + 1)) ∧ (wr j = false → S' = st (iL (fun i => listed.getD i false) wr l.length)) := by
            cases hcl : io.act.cls with
            | pure =>
              have := (act_pure hcl hact).2 (st (iL (fun i => listed.getD i false) wr l.length))
              have hf := hwj (b := false) (by rw [hcl]; rfl)
              exact actWp_mono this.wp fun r' S' ⟨h1, h2⟩ => ⟨h1, ⟨fun h => (by rw [hf] at h; cases h), fun _ => h2⟩⟩
            | read =>
              have hf := hwj (b := false) (by rw [hcl]; rfl)
              -- the memory as it is now: what is read is the same
              have key : readsAs io.act (valsOf E io j) (st (iL (fun i => listed.getD i false) wr l.length)) (c j) := by
                have hsame : readsAs io.act (valsOf E io j) (st j) (c j) := by
                  have h2 := act_read hcl hact
                  cases ha : io.act with
                  | op q =>
                    rw [ha] at hact
                    simp only [actP, actWp] at hact
                    split at hact
                    · rename_i r1 S1 hq1
                      obtain ⟨rfl, rfl⟩ := hact
                      simp only [readsAs]
                      rw [hq1, h2]
                    · exact hact.elim
                  | call f => rw [ha] at hcl; cases hcl
                  | callP f => rw [ha] at hcl; cases hcl
                  | callv => rw [ha] at hcl; cases hcl
                have low : ∀ p, p ≤ j → (∀ i, p ≤ i → i < j → wr i = true → listed.getD i false = false) → readsAs io.act (valsOf E io j) (st p) (c j) := by
                  intro p hpj hun2
                  rcases st_same hstep (j - p) p (by omega) with ⟨k, k1, k2, k3, k4⟩ | k1
                  · obtain ⟨x, hx, hxw, hxg⟩ := hwrN k k3
                    have hkL := hun2 k k1 (by omega) k3
                    have hbit : ((Region.before ops).getD (0 + j) 0).testBit (0 + k) = false := by
                      rw [Nat.zero_add, Nat.zero_add]
                      cases hc : ((Region.before ops).getD j 0).testBit k with
                      | false => rfl
                      | true => have := hbefL k hc; rw [hkL] at this; cases this
                    have hcon := unPairs_spec (bef := Region.before ops) (l := l) (i0 := 0) k j x io (by omega) hx hio (by simp [soft, hxw, hcl]) hbit
                    have := (hstab j io hio hgv).2 k x (by omega) hx hxg hcon
                    simp only [hxw, if_true] at this
                    rw [k4]
                    exact this
                  · rw [show p + (j - p) = j by omega] at k1
                    rw [← k1]
                    exact hsame
                rcases iL_cases (fun i => listed.getD i false) wr l.length with ⟨h1, h2⟩ | ⟨k, h1, h2, h3, h4, h5⟩
                · rw [h1]
                  refine low 0 (Nat.zero_le _) (fun i _ hij hw => ?_)
                  cases hc : listed.getD i false with
                  | false => rfl
                  | true => exact (h2 i (by omega) ⟨hc, hw⟩).elim
                · rw [h4]
                  by_cases hkj : k < j
                  · refine low (k + 1) (by omega) (fun i hki hij hw => ?_)
                    cases hc : listed.getD i false with
                    | false => rfl
                    | true => exact (h5 i (by omega) (by omega) ⟨hc, hw⟩).elim
                  · have hne : k ≠ j := by rintro rfl; rw [hLj] at h2; cases h2
                    obtain ⟨x, hx, hxw, hxg⟩ := hwrN k h3
                    have hbit : ((Region.before ops).getD (0 + k) 0).testBit (0 + j) = false := by
                      rw [Nat.zero_add, Nat.zero_add]
                      cases hc : ((Region.before ops).getD k 0).testBit j with
                      | false => rfl
                      | true => have := hI.down k h1 h2 j hc; rw [hLj] at this; cases this
                    have hcon := unPairs_spec (bef := Region.before ops) (l := l) (i0 := 0) j k io x (by omega) hio hx (by simp [soft, hxw, hcl]) hbit
                    have := (hstab k x hx hxg).2 j io (by omega) hio hgv hcon
                    simp only [hcl, reduceCtorEq, if_false] at this
                    exact this
              cases ha : io.act with
              | op q =>
                rw [ha] at key
                simp only [readsAs] at key
                show (match opA q (valsOf E io j) _ with | some (r, S') => _ | none => False)
                rw [key]
                exact ⟨rfl, fun h => (by rw [hf] at h; cases h), fun _ => rfl⟩
              | call f => rw [ha] at hcl; cases hcl
              | callP f => rw [ha] at hcl; cases hcl
              | callv => rw [ha] at hcl; cases hcl
            | write =>
              have hn := hnow hcl
              have ht := hwj (b := true) (by rw [hcl]; rfl)
              rw [hn]
              exact actWp_mono hact.wp fun r' S' ⟨h1, h3⟩ => ⟨h1, fun _ => h3, fun h => (by rw [ht] at h; cases h)⟩
          refine act_sound hI.mem t1 (args_rep' (fun t ht => hlooks t (by simp only [IOper.looks, List.mem_append]; exact .inl ht)) t2) hact2 ?_
          rintro r' S1 ow2 v w2 ⟨rfl, hw1, hw2⟩ hM tr hlo hr
          refine hnext ow2 w2 v S1 hw1 hw2 hM tr (fun β d hb => hlo β d hb ?_) hr
          intro hdd
          have hcw : io.act.cls = .write := by
            cases hact' : io.act with
            | op q => rw [hact'] at hdd; cases q <;> simp [IAct.dropped, IOp.dropped, IAct.cls] at hdd ⊢
            | call f => rfl
            | callP f => rw [hact'] at hdd; simp [IAct.dropped] at hdd
            | callv => rfl
          have hloc := hI.mem.locin β d hb
          rw [hnow hcw] at hloc
          rw [← hdd] at hdrop
          simp only at hdrop
          rw [hdrop] at hloc
          cases hloc
        · rw [hguard false hgv]
          simp only [Bool.false_eq_true, if_false]
          have hr : RRep (FX X ow1 (st (iL (fun i => listed.getD i false) wr l.length)).toks) w1 ow1 (st (iL (fun i => listed.getD i false) wr l.length)).toks (c j) undef := by
            rw [hcj]; exact .inr (.tup [] #[] rfl (by simp))
          exact hnext ow1 w1 undef _ (fun hcw => by rw [hwr' j io hio, hgv] at hcw; simp at hcw) (fun _ => rfl) hI.mem (Tr.refl _ _ _ _) (fun _ _ h => h) hr
  have hz : ∀ k, iL (fun i => (Array.replicate ops.size false).getD i false) wr k = 0 := by
    intro k
    induction k with
    | zero => rfl
    | succ k ih =>
      simp only [iL]
      rw [if_neg, ih]
      rintro ⟨h1, _⟩
      simp [Array.getD_eq_getD_getElem?, Array.getElem?_replicate] at h1
      split at h1 <;> simp at h1
  have hno : ∀ i, (Array.replicate ops.size false).getD i false = false := by
    intro i
    simp [Array.getD_eq_getD_getElem?, Array.getElem?_replicate]
    split <;> rfl
  have hez : ∀ k t, eL (fun i => (Array.replicate ops.size false).getD i false) dst c (fun t => e.get t) k t = e.get t := by
    intro k t
    induction k with
    | zero => rfl
    | succ k ih =>
      simp only [eL]
      rw [if_neg, ih]
      rintro ⟨h1, _⟩
      rw [hno] at h1
      cases h1
  refine wp_region_any hmix (main ops.size _ ow _ a (by simp [hN]) ?_ ⟨hs.defers, hs.size, ?_, fun t => ?_, ?_⟩ ?_)
  · have : ∀ k, unL (fun i => (Array.replicate ops.size false).getD i false) k = k := by
      intro k
      induction k with
      | zero => rfl
      | succ k ih => simp only [unL]; rw [ih, if_neg (by rw [hno]; simp)]
    rw [this, hN]
  · rw [hz, hst0]; exact hs.mem.drawn _
  · rw [hz, hst0, hez]
    exact (hs.env t).mono (Tr.drawn _ _ _ _ _) (fun _ _ _ _ h => h)
  · intro j _ hj
    simp only [hno] at hj
    cases hj
  · rw [hz, hst0]; exact Tr.drawn _ _ _ _ _
end
end Go.Ag
/- An abstract machine for Go functions, eighteenth part: code, functions. -/
namespace Go.Ag
open Go
set_option linter.unusedVariables false
set_option linter.unusedSimpArgs false
section
variable {P : Program} {X : Cells} {ow : Ow} {S : Mem} {w : World}

theorem mapO_range {α β : Type} {f : α → Option β} : ∀ {l : List α} {ys : List β} (pre : List α), mapO f l = some ys → mapO (fun i => ((pre ++ l)[i]?).bind f) (List.range' pre.length l.length) = some ys
  | [], ys, pre, h => by simpa [mapO] using h
  | a :: l, ys, pre, h => by
    simp only [mapO] at h
    split at h
    · rename_i y zs hy hzs
      cases h
      have ih := mapO_range (pre ++ [a]) hzs
      simp only [List.append_assoc, List.singleton_append, List.length_append, List.length_singleton] at ih
      rw [List.length_cons, List.range'_succ]
      simp only [mapO]
      have e : ((pre ++ a :: l)[pre.length]?).bind f = some y := by simp [hy]
      rw [e, ih]
    · cases h

def exRel : Exit → Ex → Prop
  | .normal, .normal => True
  | .exit i, .exit j => i = j
  | .ret, .ret => True
  | _, _ => False
def Post (X : Cells) (n : Nat) (Q : Ex → Env → Mem → Prop) (ow : Ow) (T : List (Nat × Nat × Nat)) (w : World) : Exit → Act → World → Prop :=
  fun x a' w' => ∃ y e' S' ow', exRel x y ∧ Q y e' S' ∧ SRel X n ow' S' w' e' a' ∧ Tr X ow T w ow' S'.toks w'

/-- All guards of the code are on slots. -/
def IR.guards (n : Nat) : IR → Bool
  | .ops l _ | .opsD l _ _ => guardsOk n l
  | .seq a b => a.guards n && b.guards n
  | .cond _ a b => a.guards n && b.guards n
  | .block _ c | .loop _ c => c.guards n
  | _ => true

theorem ir_sound {hn : FHint} {n : Nat} (hmix : P.follows .mixedOrders = true) :
    ∀ (c : Code) (ir : IR), trCode P hn n c = some ir → ir.guards n = true → ∀ (Q : Ex → Env → Mem → Prop) (ow : Ow) (S : Mem) (w : World) (e : Env) (a : Act),
      SRel X n ow S w e a → irWp P ir Q e S → c.wp P (Post X n Q ow S.toks w) a w
  | .skip, ir, ht, _, Q, ow, S, w, e, a, hs, h => by
    simp only [trCode, Option.some.injEq] at ht
    subst ht
    exact wp_skip ⟨.normal, e, S, ow, trivial, h, hs, Tr.refl _ _ _ _⟩
  | .region id ops draw, ir, ht, hg, Q, ow, S, w, e, a, hs, h => by
    simp only [trCode] at ht
    split at ht
    · rename_i l hl
      split at ht
      · rename_i hd
        split at ht
        · rename_i hok
          cases ht
          simp only [irWp] at h
          subst hd
          refine drawn_sound hmix ops l id hl hok hg _ _ ow S w e a hs h (fun ow' S' w' e' a' k1 k2 k3 => ?_)
          obtain ⟨ow2, q1, q2⟩ := k2.keep (hn.keepR id)
          exact ⟨.normal, _, _, ow2, trivial, k1, q1, k3.trans q2⟩
        · cases ht; exact h.elim
      · rename_i hd
        cases ht
        simp only [irWp] at h
        have hd' : draw = false := by simpa using hd
        subst hd'
        refine wp_region (ops_sound (X := X) (hn := hn.toHint) (List.range ops.size) l ?_ hg ow S w e a hs h (fun ow' S' w' e' a' k1 k2 k3 => ?_))
        · have := mapO_range [] hl
          simp only [List.nil_append, List.length_nil] at this
          rw [List.range_eq_range']
          simpa using this
        · obtain ⟨ow2, q1, q2⟩ := k2.keep (hn.keepR id)
          exact ⟨.normal, _, _, ow2, trivial, k1, q1, k3.trans q2⟩
    · cases ht; exact h.elim
  | .seq x y, ir, ht, hg, Q, ow, S, w, e, a, hs, h => by
    simp only [trCode] at ht
    split at ht
    · rename_i i j hi hj
      cases ht
      simp only [irWp] at h
      simp only [IR.guards, Bool.and_eq_true] at hg
      refine wp_seq (wp_mono (ir_sound hmix x i hi hg.1 _ ow S w e a hs h) ?_)
      rintro ex a' w' ⟨y', e', S', ow', h1, h2, h3, h4⟩
      cases ex <;> cases y' <;> simp only [exRel] at h1
      · refine wp_mono (ir_sound hmix y j hj hg.2 Q ow' S' w' e' a' h3 h2) ?_
        rintro ex2 a2 w2 ⟨y2, e2, S2, ow2, g1, g2, g3, g4⟩
        exact ⟨y2, e2, S2, ow2, g1, g2, g3, h4.trans g4⟩
      · exact ⟨.exit _, e', S', ow', h1, h2, h3, h4⟩
      · exact ⟨.ret, e', S', ow', trivial, h2, h3, h4⟩
    · cases ht
  | .cond c x y, ir, ht, hg, Q, ow, S, w, e, a, hs, h => by
    simp only [trCode] at ht
    split at ht
    · rename_i z i j hz hi hj
      cases ht
      simp only [irWp] at h
      simp only [IR.guards, Bool.and_eq_true] at hg
      split at h
      · rename_i b hb
        have hr := opnd_rep hs.env hz
        rw [hb] at hr
        refine wp_cond (rbool hr) ?_
        cases b
        · exact ir_sound hmix y j hj hg.2 Q ow S w e a hs (by simpa using h)
        · exact ir_sound hmix x i hi hg.1 Q ow S w e a hs (by simpa using h)
      · rename_i hb
        have hr := opnd_rep hs.env hz
        rw [hb] at hr
        obtain ⟨q, hc⟩ : ∃ q, a.eval c = .bool q := by
          rcases hr with ⟨_, _, _, hr, _⟩ | hr
          · cases hr
          · generalize a.eval c = v at hr
            cases hr with | p hr => cases hr with | ab c => exact ⟨c, rfl⟩
        obtain ⟨J, hx, hy, hJ⟩ := h
        have fin : ∀ ex a' w', Post X n J ow S.toks w ex a' w' → Post X n Q ow S.toks w ex a' w' := by
          rintro ex a' w' ⟨y', e', S', ow', h1, h2, h3, h4⟩
          obtain ⟨e2, h5, h6⟩ := hJ _ _ _ h2
          exact ⟨y', e2, S', ow', h1, h6, ⟨h3.defers, h3.size, fun t => (h3.env t).wk (h5 t), h3.mem⟩, h4⟩
        refine wp_cond hc ?_
        cases q
        · exact wp_mono (ir_sound hmix y j hj hg.2 J ow S w e a hs hy) fin
        · exact wp_mono (ir_sound hmix x i hi hg.1 J ow S w e a hs hx) fin
      · exact h.elim
    · cases ht
  | .block id c, ir, ht, hg, Q, ow, S, w, e, a, hs, h => by
    simp only [trCode, Option.map_eq_some_iff] at ht
    obtain ⟨i, hi, rfl⟩ := ht
    simp only [irWp] at h
    refine wp_block (wp_mono (ir_sound hmix c i hi hg _ ow S w e a hs h) ?_)
    rintro ex a' w' ⟨y', e', S', ow', h1, h2, h3, h4⟩
    cases ex <;> cases y' <;> simp only [exRel] at h1
    · exact ⟨.normal, e', S', ow', trivial, h2, h3, h4⟩
    · subst h1
      simp only [Exit.inBlock, Ex.inBlock] at h2 ⊢
      split
      · rename_i hid
        rw [if_pos hid] at h2
        exact ⟨.normal, e', S', ow', trivial, h2, h3, h4⟩
      · rename_i hid
        rw [if_neg hid] at h2
        exact ⟨.exit _, e', S', ow', rfl, h2, h3, h4⟩
    · exact ⟨.ret, e', S', ow', trivial, h2, h3, h4⟩
  | .loop c, ir, ht, hg, Q, ow, S, w, e, a, hs, h => by
    simp only [trCode, Option.map_eq_some_iff] at ht
    obtain ⟨i, hi, rfl⟩ := ht
    simp only [irWp] at h
    generalize loopKeep hn c = k at h
    obtain ⟨I, m, h0, hr⟩ := h
    obtain ⟨ow1, q1, q2⟩ := hs.keep k
    refine wp_loop_ghost (fun m a' w' => ∃ e' S' ow', I m e' S' ∧ SRel X n ow' S' w' e' a' ∧ Tr X ow S.toks w ow' S'.toks w') m ⟨_, _, ow1, h0, q1, q2⟩ ?_
    rintro m a' w' ⟨e', S', ow', g1, g2, g3⟩
    refine wp_mono (ir_sound hmix c i hi hg _ ow' S' w' e' a' g2 (hr m e' S' g1)) ?_
    rintro ex a2 w2 ⟨y2, e2, S2, ow2, f1, f2, f3, f4⟩
    cases ex <;> cases y2 <;> simp only [exRel] at f1
    · obtain ⟨m', hm, hI⟩ := f2
      obtain ⟨ow3, p1, p2⟩ := f3.keep k
      exact ⟨m', hm, _, _, ow3, hI, p1, (g3.trans f4).trans p2⟩
    · exact ⟨.exit _, e2, S2, ow2, f1, f2, f3, g3.trans f4⟩
    · exact ⟨.ret, e2, S2, ow2, trivial, f2, f3, g3.trans f4⟩
  | .exit id, ir, ht, _, Q, ow, S, w, e, a, hs, h => by
    simp only [trCode, Option.some.injEq] at ht
    subst ht
    exact wp_exit ⟨.exit id, e, S, ow, rfl, h, hs, Tr.refl _ _ _ _⟩
  | .ret, ir, ht, _, Q, ow, S, w, e, a, hs, h => by
    simp only [trCode, Option.some.injEq] at ht
    subst ht
    exact wp_ret ⟨.ret, e, S, ow, trivial, h, hs, Tr.refl _ _ _ _⟩
  | .scope c, ir, ht, hg, Q, ow, S, w, e, a, hs, h => by
    simp only [trCode] at ht
    refine wp_scope_straight (wp_mono (ir_sound hmix c ir ht hg Q ow S w e a hs h) ?_)
    rintro ex a' w' ⟨y', e', S', ow', h1, h2, h3, h4⟩
    cases ex <;> cases y' <;> simp only [exRel] at h1
    · exact ⟨.normal, e', S', ow', trivial, h2, h3, h4⟩
    · exact ⟨.exit _, e', S', ow', h1, h2, h3, h4⟩
    · exact ⟨.ret, e', S', ow', trivial, h2, h3, h4⟩
  | .rangeFunc .., ir, ht, _, Q, ow, S, w, e, a, hs, h => by simp only [trCode, Option.some.injEq] at ht; subst ht; exact h.elim
  | .label l, ir, ht, _, Q, ow, S, w, e, a, hs, h => by
    simp only [trCode, Option.some.injEq] at ht
    subst ht
    exact wp_label ⟨.normal, e, S, ow, trivial, h, hs, Tr.refl _ _ _ _⟩
  | .goto l, ir, ht, _, Q, ow, S, w, e, a, hs, h => by simp only [trCode, Option.some.injEq] at ht; subst ht; exact h.elim
  | .refuse l, ir, ht, _, Q, ow, S, w, e, a, hs, h => by simp only [trCode, Option.some.injEq] at ht; subst ht; exact h.elim

/-! ### Functions -/
inductive IRes where
  | t (k : Nat)
  | c (k : Nat) (n : Option Nat)
  deriving Inhabited
structure IFun where
  n : Nat
  res : List IRes
  body : IR
  deriving Inhabited
def resOne (e : Env) (S : Mem) : IRes → Option RV
  | .t k => if (e.get k).fc then some (e.get k) else none
  | .c k n => ldA n (e.get k) S
def resA (e : Env) (S : Mem) (l : List IRes) : Option RV :=
  match mapO (resOne e S) l with
  | some [r] => some r
  | some rs => some (.tup rs)
  | none => none
def trRes (P : Program) : ResultVar → Option IRes
  | .tmp t => some (.t t)
  | .cell a t => (ldKind P t).map (.c a)
def notGor (fn : Func) : Bool := fn.name != "runtime.NumGoroutine"
def trFn (P : Program) (hn : FHint) (fn : Func) : Option IFun :=
  match fn.body with
  | some c => match trCode P hn fn.ntmps c, mapO (trRes P) fn.results.toList with
    | some ir, some rs => if notGor fn && ir.guards fn.ntmps then some ⟨fn.ntmps, rs, ir⟩ else none
    | _, _ => none
  | none => none

def argEnv (args : List RV) : Env := (args.zipIdx 0).map fun x => (x.2, x.1)
def fnWp (P : Program) (f : IFun) (args : List RV) (S : Mem) (Q : RV → Mem → Prop) : Prop :=
  irWp P f.body (fun x e S' => match x with
    | .exit _ => False
    | _ => match resA e S' f.res with
      | some r => r.fc = true ∧ Q r { S' with loc := [] }
      | none => False) (argEnv args) S

theorem argEnv_get : ∀ (args : List RV) (i t : Nat), Env.get ((args.zipIdx i).map fun x => (x.2, x.1)) t = if i ≤ t then (args[t - i]?).getD .top else .top
  | [], i, t => by simp [Env.get_nil, Env.get_cons]
  | r :: args, i, t => by
    simp only [List.zipIdx_cons, List.map_cons, Env.get_nil, Env.get_cons]
    rw [argEnv_get args (i + 1) t]
    by_cases h : i = t
    · subst h; simp
    · rw [if_neg h]
      by_cases h2 : i ≤ t
      · rw [if_pos h2, if_pos (by omega), show t - i = (t - (i + 1)) + 1 by omega, List.getElem?_cons_succ]
      · rw [if_neg h2, if_neg (by omega)]

def resSem (tmps : Array Value) : ResultVar → Sem Value
  | .tmp t => pure (tmps.getD t undef)
  | .cell b t => do loadVar t (← asAddr (tmps.getD b undef))
theorem results_eq (fn : Func) (tmps : Array Value) : results fn tmps = (do
    let vs ← fn.results.mapM (resSem tmps)
    pure (if h : vs.size = 1 then vs[0] else .tuple vs) : Sem Value) := by
  unfold results
  congr 1
theorem results_sound {n e a ow S w} (hs : SRel X n ow S w e a) {fn : Func} {rs : List IRes} (hr : mapO (trRes P) fn.results.toList = some rs) {r : RV} (h : resA e S rs = some r) :
    ∃ v, (results fn a.tmps).run P w = .ok v w ∧ RRep (FX X ow S.toks) w ow S.toks r v := by
  have one : ∀ (rv : ResultVar) (ir : IRes) (q : RV), trRes P rv = some ir → resOne e S ir = some q →
      ∃ v, (resSem a.tmps rv).run P w = .ok v w ∧ FRep (FX X ow S.toks) w ow S.toks q v := by
    intro rv ir q h1 h2
    cases rv with
    | tmp t =>
      simp [trRes] at h1
      subst h1
      simp only [resOne] at h2
      split at h2
      · rename_i hf; cases h2; exact ⟨_, rfl, (hs.env t).f hf⟩
      · cases h2
    | cell b t =>
      simp only [trRes, Option.map_eq_some_iff] at h1
      obtain ⟨m, hk, rfl⟩ := h1
      simp only [resOne] at h2
      obtain ⟨v, q1, q5⟩ := ld_same (P := P) hs.mem hk (hs.env b) h2
      have hb : ∃ ad, a.tmps.getD b undef = .pointer (some ad) := by
        have := hs.env b
        generalize a.tmps.getD b undef = v' at this
        rcases this with ⟨d, off, β, _, _, rfl⟩ | hf
        · exact ⟨_, rfl⟩
        · unfold ldA at h2
          split at h2
          · rename_i heq; rw [heq] at hf; cases hf with | p hf => cases hf; exact ⟨_, rfl⟩
          · rename_i heq; rw [heq] at hf; cases hf; exact ⟨_, rfl⟩
          · rename_i heq; rw [heq] at hf; cases hf
          · cases h2
      obtain ⟨ad, had⟩ := hb
      rw [had] at q1
      have hload : (loadVar t ad).run P w = .ok v w := by simpa [Instr.loadAt, Instr.sureAddr] using q1
      refine ⟨v, ?_, q5⟩
      simp only [resSem, had]
      simpa [asAddr] using hload
  have all : ∀ (l : List ResultVar) (rs : List IRes) (qs : List RV), mapO (trRes P) l = some rs → mapO (resOne e S) rs = some qs →
      ∃ vs : List Value, (l.mapM (resSem a.tmps)).run P w = .ok vs w ∧
        vs.length = qs.length ∧ ∀ (k : Nat) q v, qs[k]? = some q → vs[k]? = some v → FRep (FX X ow S.toks) w ow S.toks q v := by
    intro l
    induction l with
    | nil =>
      intro rs qs h1 h2
      simp [mapO] at h1
      subst h1
      simp [mapO] at h2
      subst h2
      exact ⟨[], by simp, rfl, by simp⟩
    | cons rv l ih =>
      intro rs qs h1 h2
      simp only [mapO] at h1
      split at h1
      · rename_i ir rs' g1 g2
        cases h1
        simp only [mapO] at h2
        split at h2
        · rename_i q qs' g3 g4
          cases h2
          obtain ⟨v, e1, e2⟩ := one rv ir q g1 g3
          obtain ⟨vs, f1, f2, f3⟩ := ih rs' qs' g2 g4
          refine ⟨v :: vs, ?_, by simp [f2], fun k q' v' a b => ?_⟩
          · simp only [List.mapM_cons, Sem.run_bind, e1, Result.andThen_ok, f1, Sem.run_pure]
          · cases k with
            | zero => simp at a b; subst a; subst b; exact e2
            | succ k => exact f3 k q' v' (by simpa using a) (by simpa using b)
        · cases h2
      · cases h1
  unfold resA at h
  have run1 : ∀ vs : List Value, (fn.results.toList.mapM (resSem a.tmps)).run P w = .ok vs w →
      (results fn a.tmps).run P w = .ok (if h : vs.toArray.size = 1 then vs.toArray[0] else .tuple vs.toArray) w := by
    intro vs hv
    rw [results_eq, Array.mapM_eq_mapM_toList]
    simp [hv]
  split at h
  · rename_i q hq
    cases h
    obtain ⟨vs, f1, f2, f3⟩ := all _ _ _ hr hq
    match vs, f2 with
    | [v], _ => exact ⟨v, run1 [v] f1, .inr (f3 0 _ v rfl rfl)⟩
  · rename_i qs hne hq
    cases h
    obtain ⟨vs, f1, f2, f3⟩ := all _ _ _ hr hq
    have hn1 : ¬ vs.toArray.size = 1 := by
      simp only [List.size_toArray]
      rw [f2]
      intro h1
      match qs, h1 with
      | [q], _ => exact hne q rfl
    refine ⟨.tuple vs.toArray, by rw [run1 vs f1, dif_neg hn1], .inr (.tup qs _ (by simpa using f2) (fun k q v a b => f3 k q v a (by simpa using b)))⟩
  · cases h

/-- A function whose code does as is wanted meets its contract. -/
theorem fn_sound {f : FuncId} {fn : Func} {hn : FHint} (hmix : P.follows .mixedOrders = true)
    (hf : P.funcs[f]? = some fn) {ifn : IFun} (ht : trFn P hn fn = some ifn) {args : List RV} {S : Mem} {Q : RV → Mem → Prop} (hS : S.loc = []) (ha : args.length ≤ ifn.n) (h : fnWp P ifn args S Q) : SC P f args S Q := by
  unfold trFn at ht
  split at ht
  · rename_i c hb
    split at ht
    · rename_i ir rs hc hrs
      split at ht
      · rename_i hg
        cases ht
        simp only [Bool.and_eq_true] at hg
        obtain ⟨hng, hg⟩ := hg
        refine ⟨fun as w => ?_, fun X ow w vs hM hno hs hv => ?_⟩
        · have : fn.name ≠ "runtime.NumGoroutine" := by simpa [notGor] using hng
          simp [callFunc, hf, hb, this]
        · have hS' : ({ S with loc := [] } : Mem) = S := by cases S; simp at hS; subst hS; rfl
          rw [hS'] at hM
          refine calls_of_wp hf hb ?_
          have hsr : SRel X fn.ntmps ow S w (argEnv args) { tmps := vs ++ Array.replicate (fn.ntmps - vs.size) undef, defers := [] } := by
            refine ⟨rfl, by simp at ha ⊢; omega, fun t => ?_, hM⟩
            unfold argEnv
            rw [argEnv_get, if_pos (Nat.zero_le _), Nat.sub_zero]
            cases hk : args[t]? with
            | none => exact rrep_top _
            | some r =>
              have ht := (List.getElem?_eq_some_iff.1 hk).1
              have hvt : vs[t]? = some (vs[t]'(by omega)) := Array.getElem?_eq_getElem (by omega)
              simp only [Option.getD_some]
              rw [Array.getD_eq_getD_getElem?, Array.getElem?_append_left (by omega), hvt]
              exact .inr (hv t r _ hk hvt)
          refine wp_mono (ir_sound hmix c ir hc hg _ ow S w _ _ hsr h) ?_
          rintro ex a' w' ⟨y, e', S2, ow2, h1, h2, h3, h4⟩
          have fin : (match resA e' S2 rs with | some r => r.fc = true ∧ Q r { S2 with loc := [] } | none => False) → (a'.defers = [] ∧ ∃ v, (results fn a'.tmps).run P w' = .ok v w' ∧
              ∃ v2 r S' ow', Ending.returned v = .returned v2 ∧ Q r S' ∧ S'.loc = [] ∧ MRel X ow' S' w' ∧ noLoc ow' ∧ FRep (FX X ow' S'.toks) w' ow' S'.toks r v2 ∧ Tr X ow S.toks w ow' S'.toks w') := by
            intro hh
            split at hh
            · rename_i r hr
              obtain ⟨hfc, hQ⟩ := hh
              obtain ⟨v, g1, g2⟩ := results_sound h3 hrs hr
              obtain ⟨k1, k2⟩ := h3.mem.keepV []
              have hmem : S2.keepV [] = { S2 with loc := [] } := by simp [Mem.keepV]
              refine ⟨h3.defers, v, g1, v, r, _, owKeep ow2 [], rfl, hQ, rfl, by rw [← hmem]; exact k1, ?_, (g2.f hfc).mono k2, h4.trans k2⟩
              intro β d hβ
              have := (owKeep_some hβ).2 d rfl
              simp at this
            · exact hh.elim
          cases ex <;> cases y <;> simp only [exRel] at h1
          · exact fin h2
          · exact h2.elim
          · exact fin h2
      · cases ht
    · cases ht
  · cases ht
end
end Go.Ag
/- An abstract machine for Go functions: equations for walking through the code of a function. -/
namespace Go.Ag
open Go
set_option linter.unusedVariables false
set_option linter.unusedSimpArgs false
section
variable {P : Program} {Q : Ex → Env → Mem → Prop} {e : Env} {S : Mem}

theorem irWp_skip : irWp P .skip Q e S = Q .normal e S := rfl
theorem irWp_ops {l k} : irWp P (.ops l k) Q e S = opsWp P l (fun e S => Q .normal (keepE k e) (keepS k S)) e S := rfl
theorem irWp_opsD {l un k} : irWp P (.opsD l un k) Q e S = dWp P un 0 [] l (fun e S => Q .normal (keepE k e) (keepS k S)) e S := rfl
theorem irWp_seq {a b} : irWp P (.seq a b) Q e S = irWp P a (Ex.then (irWp P b Q) Q) e S := rfl
theorem irWp_cond {x : Xp} {a b} : irWp P (.cond x a b) Q e S = (match x.ev e with | .p (.bool c) => if c then irWp P a Q e S else irWp P b Q e S | .p .ab => ∃ J : Ex → Env → Mem → Prop, irWp P a J e S ∧ irWp P b J e S ∧ ∀ x e' S', J x e' S' → ∃ e2, Env.wk e' e2 ∧ Q x e2 S' | _ => False) := rfl
theorem irWp_block {id c} : irWp P (.block id c) Q e S = irWp P c (Ex.inBlock id Q) e S := rfl
theorem irWp_exit {id} : irWp P (.exit id) Q e S = Q (.exit id) e S := rfl
theorem irWp_ret : irWp P .ret Q e S = Q .ret e S := rfl
theorem then_normal {K : Env → Mem → Prop} : Ex.then K Q .normal e S = K e S := rfl
theorem then_exit {K : Env → Mem → Prop} {i} : Ex.then K Q (.exit i) e S = Q (.exit i) e S := rfl
theorem then_ret {K : Env → Mem → Prop} : Ex.then K Q .ret e S = Q .ret e S := rfl
theorem inBlock_normal {id} : Ex.inBlock id Q .normal e S = Q .normal e S := rfl
theorem inBlock_exit {id i} : Ex.inBlock id Q (.exit i) e S = if i = id then Q .normal e S else Q (.exit i) e S := rfl
theorem inBlock_ret {id} : Ex.inBlock id Q .ret e S = Q .ret e S := rfl
theorem keepE_some {l} : keepE (some l) e = e.keepV l := rfl
theorem keepS_some {l} : keepS (some l) S = S.keepV l := rfl

/-- A loop whose states are known: what they look like, a number that falls. -/
theorem irWp_loop {σ : Type} {k c} (st : σ → Env × Mem) (μ : σ → Nat) (inv : σ → Prop) (s : σ) (hi : inv s) (h1 : keepE k e = (st s).1) (h2 : keepS k S = (st s).2)
    (hr : ∀ s, inv s → irWp P c (Ex.then (fun e' S' => ∃ s', inv s' ∧ μ s' < μ s ∧ keepE k e' = (st s').1 ∧ keepS k S' = (st s').2) Q) (st s).1 (st s).2) : irWp P (.loop k c) Q e S := by
  refine ⟨fun n e S => ∃ s, inv s ∧ μ s = n ∧ e = (st s).1 ∧ S = (st s).2, μ s, ⟨s, hi, rfl, h1, h2⟩, ?_⟩
  rintro n e S ⟨s, hs, rfl, rfl, rfl⟩
  have heq : (fun (e' : Env) (S' : Mem) => ∃ m, m < μ s ∧ ∃ s', inv s' ∧ μ s' = m ∧ keepE k e' = (st s').1 ∧ keepS k S' = (st s').2) =
      fun e' S' => ∃ s', inv s' ∧ μ s' < μ s ∧ keepE k e' = (st s').1 ∧ keepS k S' = (st s').2 := by
    funext e' S'
    apply propext
    constructor
    · rintro ⟨m, hm, s', h1, rfl, h2⟩; exact ⟨s', h1, hm, h2⟩
    · rintro ⟨s', h1, hm, h2⟩; exact ⟨_, hm, s', h1, rfl, h2⟩
  rw [heq]
  exact hr s hs
end
end Go.Ag
/- An abstract machine for Go functions: running code at constants. -/
namespace Go.Ag
open Go
set_option linter.unusedVariables false
set_option linter.unusedSimpArgs false

abbrev Callee := FuncId → List RV → Mem → Option (RV × Mem)
def evAct (call : Callee) (d : Bool) (act : IAct) (vals : List RV) (S : Mem) : Option (RV × Mem) :=
  match act with
  | .op o => opA o vals S
  | .call f => if vals.all RV.fc then (call f vals { S with loc := [] }).map fun x => (x.1, { x.2 with loc := S.loc }) else none
  | .callP f => match RV.toPVs vals with
    | some pvs => match call f (pvs.map .p) mem0 with
      | some (r, S') => (r.still S').map fun r => (.p r, S)
      | none => none
    | none => if d then none else if vals.all RV.fc then (call f vals { S with loc := [] }).map fun x => (x.1, { x.2 with loc := S.loc }) else none
  | .callv => match vals with
    | .p (.fn f a b) :: rest => if rest.all RV.fc then (call f (a.map .p ++ rest ++ b.map .p) { S with loc := [] }).map fun x => (x.1, { x.2 with loc := S.loc }) else none
    | .fn f a b :: rest => if rest.all RV.fc then (call f (a ++ rest ++ b) { S with loc := [] }).map fun x => (x.1, { x.2 with loc := S.loc }) else none
    | _ => none
def evOps (call : Callee) : List IOper → Env → Mem → Option (Env × Mem)
  | [], e, S => some (e, S)
  | o :: os, e, S => match guardV o.guard e with
    | some true => match evAct call false o.act (o.args.map (·.ev e)) S with
      | some (r, S') => evOps call os (setO o.dst (strikeO o.act.dropped e) r) S'
      | none => none
    | some false => evOps call os (setO o.dst e (.tup [])) S
    | none => none
def readsB (act : IAct) (vals : List RV) (S : Mem) (r : RV) : Bool :=
  match act with
  | .op o => decide (act.cls = .read) && match opA o vals S with
    | some (r', _) => RV.eqb r' r
    | none => false
  | _ => false
def stabB (un : List (Nat × Nat)) (j : Nat) (act : IAct) (vals : List RV) (r : RV) (S' : Mem) (x : Came) : Bool :=
  !un.contains (x.i, j) || if x.act.cls = .write then readsB act vals x.S r else readsB x.act x.vals S' x.r
def evOpsD (call : Callee) (un : List (Nat × Nat)) : Nat → List Came → List IOper → Env → Mem → Option (Env × Mem)
  | _, _, [], e, S => some (e, S)
  | i, h, o :: os, e, S => match guardV o.guard e with
    | some true => match (match o.act.dropped with | some d => (locGet S.loc d).isNone | none => true) with
      | true => match evAct call true o.act (o.args.map (·.ev e)) S with
        | some (r, S') => match un.isEmpty || h.all (stabB un i o.act (o.args.map (·.ev e)) r S') with
          | true => evOpsD call un (i + 1) (⟨i, o.act, o.args.map (·.ev e), r, S⟩ :: h) os (setO o.dst e r) S'
          | false => none
        | none => none
      | false => none
    | some false => evOpsD call un (i + 1) h os (setO o.dst e (.tup [])) S
    | none => none
/-- Each of some states leads to some states. -/
def bindL {α β : Type} (f : α → Option (List β)) : List α → Option (List β)
  | [] => some []
  | [x] => f x
  | x :: xs => match f x, bindL f xs with
    | some a, some b => some (a ++ b)
    | _, _ => none
def evIR (call : Callee) : Nat → IR → Env → Mem → Option (List (Ex × Env × Mem))
  | 0, _, _, _ => none
  | n + 1, ir, e, S => match ir with
    | .skip => some [(.normal, e, S)]
    | .ops l k => match evOps call l e S with
      | some (e, S) => some [(.normal, keepE k e, keepS k S)]
      | none => none
    | .opsD l un k => match evOpsD call un 0 [] l e S with
      | some (e, S) => some [(.normal, keepE k e, keepS k S)]
      | none => none
    | .seq a b => match evIR call n a e S with
      | some L => bindL (fun x => match x with
        | (.normal, e, S) => evIR call n b e S
        | r => some [r]) L
      | none => none
    | .cond x a b => match x.ev e with
      | .p (.bool true) => evIR call n a e S
      | .p (.bool false) => evIR call n b e S
      | .p .ab => match evIR call n a e S, evIR call n b e S with
        | some L, some M => some (L ++ M)
        | _, _ => none
      | _ => none
    | .block id c => match evIR call n c e S with
      | some L => some (L.map fun x => match x with
        | (.exit i, e, S) => if i = id then (.normal, e, S) else (.exit i, e, S)
        | r => r)
      | none => none
    | .exit id => some [(.exit id, e, S)]
    | .ret => some [(.ret, e, S)]
    | .no => none
    | .loop k c => match evIR call n c (keepE k e) (keepS k S) with
      | some L => bindL (fun x => match x with
        | (.normal, e, S) => evIR call n (.loop k c) e S
        | r => some [r]) L
      | none => none
/-- What a function yields, in one of its states at the end. -/
def evRes (res : List IRes) (x : Ex × Env × Mem) : Option (RV × Mem) :=
  match x with
  | (.exit _, _, _) => none
  | (_, e, S) => match resA e S res with
    | some r => if r.fc then some (r, { S with loc := [] }) else none
    | none => none
def joinR : List (RV × Mem) → Option (RV × Mem)
  | [] => none
  | [x] => some x
  | x :: xs => match joinR xs with
    | some y => if Mem.eqb x.2 y.2 then some (joinV x.1 y.1, y.2) else none
    | none => none
def evFn (T : FuncId → Option IFun) (X : Callee) (fuel : Nat) : Nat → Callee
  | 0, _, _, _ => none
  | n + 1, f, args, S => match X f args S with
    | some r => some r
    | none => match T f with
      | some ifn => if args.length ≤ ifn.n then match evIR (evFn T X fuel n) fuel ifn.body (argEnv args) S with
          | some L => match mapO (evRes ifn.res) L with
            | some R => joinR R
            | none => none
          | none => none
        else none
      | none => none
end Go.Ag
