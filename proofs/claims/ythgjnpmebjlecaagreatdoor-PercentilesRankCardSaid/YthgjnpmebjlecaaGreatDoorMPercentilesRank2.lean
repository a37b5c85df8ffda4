/- Several texts of one proof in one file, one after another, each with its own head: the machine's side of a law and the plain side; conditions: those of each theorem. -/
import Derived.Test.YthgjnpmebjlecaaGreatDoorMPercentilesRank0
import Derived.Test.YthgjnpmebjlecaaGreatDoorMPercentilesRank1
import Derived.Test.YthgjnpmebjlecaaGreatDoorCards
import Derived.Test.YthgjnpmebjlecaaGreatDoorTie
import Derived.WalkKit
import Derived.ProofKit
import Derived.OpenShut
import Derived.ShutString
import Derived.ChangeOld
import Derived.Below
import Derived.SizedLaws
import Derived.LaidMore
import Derived.Lay
import Derived.SevenTiedAt
import Derived.Stop.Joined
import Derived.Test.YthgjnpmebjlecaaGreatDoorWSized
set_option linter.unusedVariables false
set_option linter.unusedSimpArgs false
/- The machine's side, printed by a program of this session: each Go function named below comes to the Lean function of its name; conditions: those of each theorem. -/
namespace Go.Proofs.YthgjnpmebjlecaaGreatDoor.P
open Go.RowKit Go.Proofs.YthgjnpmebjlecaaGreatDoorW.PrintWords Go.Proofs.YthgjnpmebjlecaaGreatDoorW.PrintLast Go.Proofs.YthgjnpmebjlecaaGreatDoorW.PrintMore
attribute [local go_sem] max2_int min2_int max_two min_two max_three min_three max_four min_four   -- for this text's walks alone
set_option linter.unusedVariables false
set_option linter.unusedSimpArgs false

/-! ### upstream_Round: function 7 -/
mutual
def upstream_Round.l0 : Nat → List (S29) → List Int → Int → List ByteArray → Int → Int → Option (List ByteArray × Int)
  | 0, _, _, _, _, _, _ => none
  | k + 1, x0, x7, x8, x9, x28, x29 => if x29 < x28 then (upstream_Round.l1 k x0 x7 x8 x9 0 x28 x29 x0 (x0.length : Int) 0) else (some (x9, 0))
def upstream_Round.l1 : Nat → List (S29) → List Int → Int → List ByteArray → Int → Int → Int → List (S29) → Int → Int → Option (List ByteArray × Int)
  | 0, _, _, _, _, _, _, _, _, _, _ => none
  | k + 1, x0, x7, x8, x9, x10, x28, x29, x31, x32, x33 => if x33 < x32 then (if 0 ≤ x33 then (if x33 < (x31.length : Int) then (if x33 < (x7.length : Int) then ((some (x7.set (x33 : Int).toNat (wrap64 ((rd x7 x33) + ((rd_T29 x31 x33).f1))) : List Int)).bind fun y158 => (if 0 ≤ x10 then (if x10 < (x7.length : Int) then (if (rd y158 x33) > (rd y158 x10) then (upstream_Round.l1 k x0 y158 x8 x9 x33 x28 x29 x31 x32 (wrap64 (x33 + 1))) else (upstream_Round.l1 k x0 y158 x8 x9 x10 x28 x29 x31 x32 (wrap64 (x33 + 1)))) else (none)) else (none))) else (none)) else (none)) else (none)) else (if 0 ≤ x10 then (if x10 < (x7.length : Int) then (if x10 < (x0.length : Int) then (if x9.length < 8796093022208 then (upstream_Round.l0 k x0 (x7.set (x10 : Int).toNat (wrap64 ((rd x7 x10) - x8))) x8 (x9 ++ [(rd_T29 x0 x10).f0]) x28 (wrap64 (x29 + 1))) else (none)) else (none)) else (none)) else (none))
end
def upstream_Round.f (k : Nat) (l0 : List (S29)) (a1 : Int) : Option (List ByteArray × Int) := (upstream_CheckInstances.f k l0).bind fun t149 => (if t149 = 0 then ((kit_Outside.f a1 0 2000).bind fun t150 => (if t150 = true then (some (([] : List ByteArray), 1)) else (if (l0.length : Int) = 0 then (some (([] : List ByteArray), 8)) else (if 0 ≤ (l0.length : Int) then (if ((l0.length : Int) : Int).toNat ≤ 35184372088832 then ((upstream_weights.f k l0).bind fun t154 => (upstream_Round.l0 k l0 (List.replicate ((l0.length : Int) : Int).toNat 0) t154 ([] : List ByteArray) a1 0)) else (none)) else (none))))) else (some (([] : List ByteArray), t149)))
theorem upstream_Round.mono_l : ∀ k, (∀ y0 y1 y2 y3 y4 y5, LeO (upstream_Round.l0 k y0 y1 y2 y3 y4 y5) (upstream_Round.l0 (k + 1) y0 y1 y2 y3 y4 y5)) ∧ (∀ y0 y1 y2 y3 y4 y5 y6 y7 y8 y9, LeO (upstream_Round.l1 k y0 y1 y2 y3 y4 y5 y6 y7 y8 y9) (upstream_Round.l1 (k + 1) y0 y1 y2 y3 y4 y5 y6 y7 y8 y9))
  | 0 => ⟨fun _ _ _ _ _ _ r h => by simp [upstream_Round.l0] at h, fun _ _ _ _ _ _ _ _ _ _ r h => by simp [upstream_Round.l1] at h⟩
  | k + 1 => by
    obtain ⟨ih0, ih1⟩ := upstream_Round.mono_l k
    refine ⟨?_, ?_⟩
    · intro y0 y1 y2 y3 y4 y5
      unfold upstream_Round.l0
      repeat' first
      | (with_reducible exact ih0 _ _ _ _ _ _)
      | (with_reducible exact ih1 _ _ _ _ _ _ _ _ _ _)
      | (with_reducible exact upstream_CheckInstances.mono _ _)
      | (with_reducible exact upstream_weights.mono _ _)
      | (with_reducible exact LeO.refl _)
      | (with_reducible exact LeO.none _)
      | (with_reducible refine LeO.ite ?_ ?_)
      | (with_reducible refine LeO.bind ?_ (fun _ => ?_))
      | exact ih0 _ _ _ _ _ _
      | exact ih1 _ _ _ _ _ _ _ _ _ _
      | exact upstream_CheckInstances.mono _ _
      | exact upstream_weights.mono _ _
      | exact LeO.none _
      | refine LeO.ite ?_ ?_
      | refine LeO.bind ?_ (fun _ => ?_)
    · intro y0 y1 y2 y3 y4 y5 y6 y7 y8 y9
      unfold upstream_Round.l1
      repeat' first
      | (with_reducible exact ih0 _ _ _ _ _ _)
      | (with_reducible exact ih1 _ _ _ _ _ _ _ _ _ _)
      | (with_reducible exact upstream_CheckInstances.mono _ _)
      | (with_reducible exact upstream_weights.mono _ _)
      | (with_reducible exact LeO.refl _)
      | (with_reducible exact LeO.none _)
      | (with_reducible refine LeO.ite ?_ ?_)
      | (with_reducible refine LeO.bind ?_ (fun _ => ?_))
      | exact ih0 _ _ _ _ _ _
      | exact ih1 _ _ _ _ _ _ _ _ _ _
      | exact upstream_CheckInstances.mono _ _
      | exact upstream_weights.mono _ _
      | exact LeO.none _
      | refine LeO.ite ?_ ?_
      | refine LeO.bind ?_ (fun _ => ?_)
theorem upstream_Round.mono : ∀ a0 a1 k, LeO (upstream_Round.f k a0 a1) (upstream_Round.f (k + 1) a0 a1) := by
  intro a0 a1 k
  obtain ⟨ih0, ih1⟩ := upstream_Round.mono_l k
  unfold upstream_Round.f
  repeat' first
      | (with_reducible exact ih0 _ _ _ _ _ _)
      | (with_reducible exact ih1 _ _ _ _ _ _ _ _ _ _)
      | (with_reducible exact upstream_CheckInstances.mono _ _)
      | (with_reducible exact upstream_weights.mono _ _)
      | (with_reducible exact LeO.refl _)
      | (with_reducible exact LeO.none _)
      | (with_reducible refine LeO.ite ?_ ?_)
      | (with_reducible refine LeO.bind ?_ (fun _ => ?_))
      | exact ih0 _ _ _ _ _ _
      | exact ih1 _ _ _ _ _ _ _ _ _ _
      | exact upstream_CheckInstances.mono _ _
      | exact upstream_weights.mono _ _
      | exact LeO.none _
      | refine LeO.ite ?_ ?_
      | refine LeO.bind ?_ (fun _ => ?_)
def upstream_Round.T17 : Bool × List (List Nat × List Nat) := (true, [([], []), ([], []), ([0, 1], [0, 1]), ([2], [2]), ([], []), ([4], [4]), ([3, 5], [3, 5]), ([0, 1, 0, 1, 2, 3, 4, 5, 6], [0, 1]), ([7, 6, 0, 1, 2, 3, 4, 5, 6], [6, 7])])
def upstream_Round.B17 : List Nat := [0, 0, 3, 7, 0, 16, 63, 127, 255]
theorem upstream_Round.tab17 : rtab .any (opsOf Tryz.f7 17) = upstream_Round.T17 := by kernel_rfl
theorem upstream_Round.bits17 : waitsOk upstream_Round.T17.2 upstream_Round.B17 = true := by kernel_rfl
def upstream_Round.T18 : Bool × List (List Nat × List Nat) := (true, [([], []), ([], []), ([0, 1], [0, 1]), ([2], [2]), ([], []), ([], []), ([4, 5], [4, 5]), ([6], [6]), ([3, 7], [3, 7])])
def upstream_Round.B18 : List Nat := [0, 0, 3, 7, 0, 0, 48, 112, 255]
theorem upstream_Round.tab18 : rtab .any (opsOf Tryz.f7 18) = upstream_Round.T18 := by kernel_rfl
theorem upstream_Round.bits18 : waitsOk upstream_Round.T18.2 upstream_Round.B18 = true := by kernel_rfl
set_option maxHeartbeats 8000000 in
set_option maxRecDepth 100000 in
theorem upstream_Round.calls (k : Nat) (A0 : Option Addr) (c0 : Nat) (l0 : List (S29)) (a1 : Int) (r1 : List ByteArray) (r2 : Int) (w : World) (hr0 : Kd.C k29 w A0 l0.length l0) (hc0 : l0.length ≤ c0) (h : upstream_Round.f k l0 a1 = some (r1, r2)) :
    Calls Tryz.prog 7 #[.slice A0 l0.length c0, .int .i64 a1] w fun e w' => ∃ v0_ : Value, e = .returned (.tuple #[v0_, .int .i64 r2]) ∧ Kd.R Kd.string 9 w' w.heap.size (fun _ => True) v0_ r1 ∧ Below w.heap.size w w' := by
  have hu29 := Tryz.underlying29
  have HR0 := Aside0.mk hr0
  have HC0 := Aside0.mk hc0
  clear hr0 hc0
  have HB := Aside0.mk (Below.refl w.heap.size w)
  have H : ((upstream_CheckInstances.f k l0).bind fun t149 => (if t149 = 0 then ((kit_Outside.f a1 0 2000).bind fun t150 => (if t150 = true then (some (([] : List ByteArray), 1)) else (if (l0.length : Int) = 0 then (some (([] : List ByteArray), 8)) else (if 0 ≤ (l0.length : Int) then (if ((l0.length : Int) : Int).toNat ≤ 35184372088832 then ((upstream_weights.f k l0).bind fun t154 => (upstream_Round.l0 k l0 (List.replicate ((l0.length : Int) : Int).toNat 0) t154 ([] : List ByteArray) a1 0)) else (none)) else (none))))) else (some (([] : List ByteArray), t149)))) = some (r1, r2) := h
  clear h
  replace H := Option.bind_eq_some_iff.mp H
  obtain ⟨t149, A30, H⟩ := H
  replace H : (if t149 = 0 then ((kit_Outside.f a1 0 2000).bind fun t150 => (if t150 = true then (some (([] : List ByteArray), 1)) else (if (l0.length : Int) = 0 then (some (([] : List ByteArray), 8)) else (if 0 ≤ (l0.length : Int) then (if ((l0.length : Int) : Int).toNat ≤ 35184372088832 then ((upstream_weights.f k l0).bind fun t154 => (upstream_Round.l0 k l0 (List.replicate ((l0.length : Int) : Int).toNat 0) t154 ([] : List ByteArray) a1 0)) else (none)) else (none))))) else (some (([] : List ByteArray), t149))) = some (r1, r2) := H
  have A3 := Aside0.mk A30
  clear A30
  by_cases c4 : t149 = 0
  · rw [if_pos c4] at H
    have c4b0 : (t149 == 0) = true := beq_iff_eq.mpr c4
    have c4b1 : (t149 != 0) = false := bne_eq_false_iff_eq.mpr c4
    clear c4
    replace H := Option.bind_eq_some_iff.mp H
    obtain ⟨t150, A50, H⟩ := H
    replace H : (if t150 = true then (some (([] : List ByteArray), 1)) else (if (l0.length : Int) = 0 then (some (([] : List ByteArray), 8)) else (if 0 ≤ (l0.length : Int) then (if ((l0.length : Int) : Int).toNat ≤ 35184372088832 then ((upstream_weights.f k l0).bind fun t154 => (upstream_Round.l0 k l0 (List.replicate ((l0.length : Int) : Int).toNat 0) t154 ([] : List ByteArray) a1 0)) else (none)) else (none)))) = some (r1, r2) := H
    have A5 := Aside0.mk A50
    clear A50
    by_cases c6 : t150 = true
    · subst c6
      have H1 : (some (([] : List ByteArray), 1)) = some (r1, r2) := by rw [if_pos rfl] at H; exact H
      clear H
      have H := H1
      clear H1
      simp only [Option.some.injEq, Prod.mk.injEq] at H
      obtain ⟨rfl, rfl⟩ := H
      go_enter Tryz.func7, Tryz.ntmps7
      go_wp2_with (first | ((with_reducible refine gate_callee (f := 17) rfl ?_); refine goesL_ (some 14) rfl rfl Tryz.func17 (by kernel_rfl) rfl #[.slice A0 l0.length c0] rfl (by (try simp only [List.map_toArray, List.map_cons, List.map_nil]); first | done | rfl | (simp only [List.length_drop, List.length_take]; rfl)) ?_; (with_reducible refine (upstream_CheckInstances.calls k _ _ l0 t149 _ ?side1 ?side2 A3.out).mono ?_); (case side1 => repeat (first | exact HR0.out | (with_reducible refine Kd.C_alloc ?_ _) | (with_reducible refine Kd.C_drewN ?_ _) | (with_reducible refine Kd.C_drew ?_))); (case side2 => exact HC0.out); rintro e w7 ⟨rfl, hb⟩; refine ⟨_, rfl, ?_⟩; have n0_ := Aside0.mk (below_step (by repeat (first | (with_reducible first | exact HB.out | apply below_alloc | apply pw_below_drewN | apply below_drew1) | exact HB.out)) hb); clear HB; have HB := n0_; clear n0_; (try clear hb); (try clear hb2); (try clear hk); (try clear hi)) | ((with_reducible refine gate_callee (f := 18) rfl ?_); refine goesL_ (some 19) rfl rfl Tryz.func18 (by kernel_rfl) rfl #[.int .i64 a1, .int .i64 0, .int .i64 2000] rfl (by (try simp only [List.map_toArray, List.map_cons, List.map_nil]); first | done | rfl | (simp only [List.length_drop, List.length_take]; rfl)) ?_; (with_reducible refine (kit_Outside.calls a1 0 2000 true _ A5.out).mono ?_); rintro e w' ⟨rfl, ⟨nd, rfl⟩⟩; refine ⟨_, rfl, ?_⟩))
      go_ret2
      exact ⟨_, by first | rfl | (simp [errW_none, errW_some] <;> rfl) | (simp [*, errW_none, errW_some] <;> rfl), by first | exact Kd.R_nil _ _ _ _ _ | exact Kd.N_nil _ _ _ _ _ | exact Kd.V_nil _ _ _ _ _ | exact Kd.Q_nil _ _ _ _ _ | exact Kd.S_nil _ _ _ _ _, by repeat (first | (with_reducible first | exact HB.out | apply below_alloc | apply pw_below_drewN | apply below_drew1) | exact HB.out)⟩
    · replace c6 := Bool.eq_false_iff.mpr c6
      subst c6
      have H1 : (if (l0.length : Int) = 0 then (some (([] : List ByteArray), 8)) else (if 0 ≤ (l0.length : Int) then (if ((l0.length : Int) : Int).toNat ≤ 35184372088832 then ((upstream_weights.f k l0).bind fun t154 => (upstream_Round.l0 k l0 (List.replicate ((l0.length : Int) : Int).toNat 0) t154 ([] : List ByteArray) a1 0)) else (none)) else (none))) = some (r1, r2) := by rw [if_neg (show ¬ (false = true) by decide)] at H; exact H
      clear H
      have H := H1
      clear H1
      by_cases c8 : (l0.length : Int) = 0
      · rw [if_pos c8] at H
        have c8b0 : ((l0.length : Int) == 0) = true := beq_iff_eq.mpr c8
        have c8b1 : ((l0.length : Int) != 0) = false := bne_eq_false_iff_eq.mpr c8
        clear c8
        simp only [Option.some.injEq, Prod.mk.injEq] at H
        obtain ⟨rfl, rfl⟩ := H
        go_enter Tryz.func7, Tryz.ntmps7
        go_wp2_with (first | ((with_reducible refine gate_callee (f := 17) rfl ?_); refine goesL_ (some 14) rfl rfl Tryz.func17 (by kernel_rfl) rfl #[.slice A0 l0.length c0] rfl (by (try simp only [List.map_toArray, List.map_cons, List.map_nil]); first | done | rfl | (simp only [List.length_drop, List.length_take]; rfl)) ?_; (with_reducible refine (upstream_CheckInstances.calls k _ _ l0 t149 _ ?side1 ?side2 A3.out).mono ?_); (case side1 => repeat (first | exact HR0.out | (with_reducible refine Kd.C_alloc ?_ _) | (with_reducible refine Kd.C_drewN ?_ _) | (with_reducible refine Kd.C_drew ?_))); (case side2 => exact HC0.out); rintro e w9 ⟨rfl, hb⟩; refine ⟨_, rfl, ?_⟩; have n0_ := Aside0.mk (below_step (by repeat (first | (with_reducible first | exact HB.out | apply below_alloc | apply pw_below_drewN | apply below_drew1) | exact HB.out)) hb); clear HB; have HB := n0_; clear n0_; (try clear hb); (try clear hb2); (try clear hk); (try clear hi)) | ((with_reducible refine gate_callee (f := 18) rfl ?_); refine goesL_ (some 19) rfl rfl Tryz.func18 (by kernel_rfl) rfl #[.int .i64 a1, .int .i64 0, .int .i64 2000] rfl (by (try simp only [List.map_toArray, List.map_cons, List.map_nil]); first | done | rfl | (simp only [List.length_drop, List.length_take]; rfl)) ?_; (with_reducible refine (kit_Outside.calls a1 0 2000 false _ A5.out).mono ?_); rintro e w' ⟨rfl, ⟨nd, rfl⟩⟩; refine ⟨_, rfl, ?_⟩))
        go_ret2
        exact ⟨_, by first | rfl | (simp [errW_none, errW_some] <;> rfl) | (simp [*, errW_none, errW_some] <;> rfl), by first | exact Kd.R_nil _ _ _ _ _ | exact Kd.N_nil _ _ _ _ _ | exact Kd.V_nil _ _ _ _ _ | exact Kd.Q_nil _ _ _ _ _ | exact Kd.S_nil _ _ _ _ _, by repeat (first | (with_reducible first | exact HB.out | apply below_alloc | apply pw_below_drewN | apply below_drew1) | exact HB.out)⟩
      · rw [if_neg c8] at H
        have c8b0 : ((l0.length : Int) == 0) = false := beq_eq_false_iff_ne.mpr c8
        have c8b1 : ((l0.length : Int) != 0) = true := bne_iff_ne.mpr c8
        have c8b2 : ¬ (l0 = []) := fun h_ => c8 (by rw [h_]; rfl)
        by_cases c10 : 0 ≤ (l0.length : Int)
        · rw [if_pos c10] at H
          have c10b0 := eq_true c10
          have c10b1 : decide (0 ≤ (l0.length : Int)) = true := decide_eq_true c10
          clear c10
          by_cases c11 : ((l0.length : Int) : Int).toNat ≤ 35184372088832
          · rw [if_pos c11] at H
            have c11b0 := eq_true c11
            have c11b1 : decide (((l0.length : Int) : Int).toNat ≤ 35184372088832) = true := decide_eq_true c11
            clear c11
            obtain ⟨y151, hy151⟩ : ∃ y_ : List Int, y_ = (List.replicate ((l0.length : Int) : Int).toNat 0) := ⟨_, rfl⟩
            replace H : ((upstream_weights.f k l0).bind fun t154 => (upstream_Round.l0 k l0 y151 t154 ([] : List ByteArray) a1 0)) = some (r1, r2) := by first | (rw [hy151]; with_reducible exact H) | (have H2_ := (Option.bind_some _ _).symm.trans H; rw [hy151]; with_reducible exact H2_) | (have H2_ := (Option.bind_some _ _).symm.trans H; with_reducible exact H2_) | with_reducible exact H | (rw [hy151]; exact H) | exact H
            have Ny151 := Aside0.mk hy151
            clear hy151
            replace H := Option.bind_eq_some_iff.mp H
            obtain ⟨t154, A120, H⟩ := H
            replace H : (upstream_Round.l0 k l0 y151 t154 ([] : List ByteArray) a1 0) = some (r1, r2) := H
            have A12 := Aside0.mk A120
            clear A120
            have H' := Aside0.mk H
            clear H
            go_enter Tryz.func7, Tryz.ntmps7
            go_wp2_with (first | ((with_reducible refine gate_callee (f := 17) rfl ?_); refine goesL_ (some 14) rfl rfl Tryz.func17 (by kernel_rfl) rfl #[.slice A0 l0.length c0] rfl (by (try simp only [List.map_toArray, List.map_cons, List.map_nil]); first | done | rfl | (simp only [List.length_drop, List.length_take]; rfl)) ?_; (with_reducible refine (upstream_CheckInstances.calls k _ _ l0 t149 _ ?side1 ?side2 A3.out).mono ?_); (case side1 => repeat (first | exact HR0.out | (with_reducible refine Kd.C_alloc ?_ _) | (with_reducible refine Kd.C_drewN ?_ _) | (with_reducible refine Kd.C_drew ?_))); (case side2 => exact HC0.out); rintro e w13 ⟨rfl, hb⟩; refine ⟨_, rfl, ?_⟩; have n0_ := Aside0.mk (below_step (by repeat (first | (with_reducible first | exact HB.out | apply below_alloc | apply pw_below_drewN | apply below_drew1) | exact HB.out)) hb); clear HB; have HB := n0_; clear n0_; (try clear hb); (try clear hb2); (try clear hk); (try clear hi)) | ((with_reducible refine gate_callee (f := 18) rfl ?_); refine goesL_ (some 19) rfl rfl Tryz.func18 (by kernel_rfl) rfl #[.int .i64 a1, .int .i64 0, .int .i64 2000] rfl (by (try simp only [List.map_toArray, List.map_cons, List.map_nil]); first | done | rfl | (simp only [List.length_drop, List.length_take]; rfl)) ?_; (with_reducible refine (kit_Outside.calls a1 0 2000 false _ A5.out).mono ?_); rintro e w' ⟨rfl, ⟨nd, rfl⟩⟩; refine ⟨_, rfl, ?_⟩) | ((with_reducible refine gate_dst (N := 25) rfl ?_); refine Kd.R_make (Kd.int .i64) _ 3 rfl (N := 25) rfl 22 _ _ rfl (l0.length : Int) rfl rfl Tryz.underlying22 (.int .i64 0) 8 info3 rfl (by decide) (by omega) 0 (ok := fun _ => True) (okp := fun _ => True) rfl (fun _ hk => hk) trivial (of_decide_eq_true (by first | (with_reducible assumption) | assumption)) (Nat.le_trans (Nat.mul_le_mul_right _ (of_decide_eq_true (by first | (with_reducible assumption) | assumption) : (l0.length : Int).toNat ≤ 35184372088832)) (by omega)) (Below.refl _ _) (Nat.le_refl _) ?_; intro v152 w14 ho15 hb hg_ hnew_; clear hg_ hnew_; (first | rw [← Ny151.out] at ho15 | (simp only [Int.reduceToNat] at ho15; rw [← Ny151.out] at ho15)); have n0_ := Aside0.mk (Kd.R_lower ho15 (below_size (by repeat (first | (with_reducible first | exact HB.out | apply below_alloc | apply pw_below_drewN | apply below_drew1) | exact HB.out)))); have n1_ := Aside0.mk (below_step (by repeat (first | (with_reducible first | exact HB.out | apply below_alloc | apply pw_below_drewN | apply below_drew1) | exact HB.out)) hb); clear HB; have HO153 := n0_; have HB := n1_; clear n0_ n1_; clear hb ho15) | ((with_reducible refine gate_callee (f := 19) rfl ?_); refine goesL_ (some 27) rfl rfl Tryz.func19 (by kernel_rfl) rfl #[.slice A0 l0.length c0] rfl (by (try simp only [List.map_toArray, List.map_cons, List.map_nil]); first | done | rfl | (simp only [List.length_drop, List.length_take]; rfl)) ?_; (with_reducible refine (upstream_weights.calls k _ _ l0 t154 _ ?side1 ?side2 A12.out).mono ?_); (case side1 => repeat (first | exact (Kd.C_below HR0.out HB.out) | (with_reducible refine Kd.C_alloc ?_ _) | (with_reducible refine Kd.C_drewN ?_ _) | (with_reducible refine Kd.C_drew ?_))); (case side2 => exact HC0.out); rintro e w16 ⟨rfl, hb⟩; refine ⟨_, rfl, ?_⟩; have n0_ := Aside0.mk (Kd.R_below (by (with_reducible repeat (first | apply Kd.R_alloc | apply Kd.R_drewN | apply Kd.R_drew)); exact HO153.out) hb); have n1_ := Aside0.mk (below_step (by repeat (first | (with_reducible first | exact HB.out | apply below_alloc | apply pw_below_drewN | apply below_drew1) | exact HB.out)) hb); clear HO153; clear HB; have HO153 := n0_; have HB := n1_; clear n0_ n1_; (try clear hb); (try clear hb2); (try clear hk); (try clear hi)))
            go_loopg [9, 29] k (fun kq v9 v29 w' => ∃ (x7_1 : List Int) (x9_1 : List ByteArray) (x29_1 : Int), v29 = .int .i64 x29_1 ∧ Aside0 (upstream_Round.l0 kq l0 x7_1 t154 x9_1 a1 x29_1 = some (r1, r2)) ∧ Aside0 (kq ≤ k) ∧ Aside0 (Kd.R (Kd.int .i64) 3 w' w.heap.size (fun _ => True) v152 x7_1) ∧ Aside0 (Kd.R Kd.string 9 w' w.heap.size (fun _ => True) v9 x9_1) ∧ Aside0 (Below w.heap.size w w'))
            case atStart => exact ⟨(y151), (([] : List ByteArray)), (0), (by first | rfl | (simp; done) | (simp [*]; done)), H', ⟨Nat.le_refl _⟩, ⟨by (with_reducible repeat (first | apply Kd.R_alloc | apply Kd.R_drewN | apply Kd.R_drew)); exact HO153.out⟩, ⟨by first | exact Kd.R_nil _ _ _ _ _ | exact Kd.N_nil _ _ _ _ _ | exact Kd.V_nil _ _ _ _ _ | exact Kd.Q_nil _ _ _ _ _ | exact Kd.S_nil _ _ _ _ _⟩, ⟨by repeat (first | (with_reducible first | exact HB.out | apply below_alloc | apply pw_below_drewN | apply below_drew1) | exact HB.out)⟩⟩
            case round =>
              clear H'
              try clear c1
              try clear p2
              try clear c4
              try clear c4b0
              try clear c4b1
              try clear c6
              try clear c7
              try clear c8
              try clear c8b0
              try clear c8b1
              try clear c8b2
              try clear c10
              try clear c10b0
              try clear c10b1
              try clear c11
              try clear c11b0
              try clear c11b1
              obtain ⟨x7_1, x9_1, x29_1, rfl, HA, HK1, HO_7, HO_9, HB⟩ := hrel
              cases gk with
              | zero => exact absurd HA.out (by simp [upstream_Round.l0])
              | succ k1 =>
                have H := HA.out
                clear HA
                simp only [upstream_Round.l0] at H
                by_cases c17 : x29_1 < a1
                · rw [if_pos c17] at H
                  have c17b0 : decide (x29_1 < a1) = true := decide_eq_true c17
                  clear c17
                  have H' := Aside0.mk H
                  clear H
                  go_wp2
                  go_loopg [10, 33] k1 (fun kq v10 v33 w' => ∃ (x7_2 : List Int) (x10_2 : Int) (x33_2 : Int), v10 = .int .i64 x10_2 ∧ v33 = .int .i64 x33_2 ∧ Aside0 (upstream_Round.l1 kq l0 x7_2 t154 x9_1 x10_2 a1 x29_1 l0 (l0.length : Int) x33_2 = some (r1, r2)) ∧ Aside0 (kq ≤ k1) ∧ Aside0 (Kd.R (Kd.int .i64) 3 w' w.heap.size (fun _ => True) v152 x7_2) ∧ Aside0 (Kd.R Kd.string 9 w' w.heap.size (fun _ => True) u9 x9_1) ∧ Aside0 (Below w.heap.size w w'))
                  case atStart => exact ⟨(x7_1), (0), (0), (by first | rfl | (simp; done) | (simp [*]; done)), (by first | rfl | (simp; done) | (simp [*]; done)), H', ⟨Nat.le_refl _⟩, ⟨by (with_reducible repeat (first | apply Kd.R_alloc | apply Kd.R_drewN | apply Kd.R_drew)); exact HO_7.out⟩, ⟨by (with_reducible repeat (first | apply Kd.R_alloc | apply Kd.R_drewN | apply Kd.R_drew)); exact HO_9.out⟩, ⟨by repeat (first | (with_reducible first | exact HB.out | apply below_alloc | apply pw_below_drewN | apply below_drew1) | exact HB.out)⟩⟩
                  case round =>
                    clear H'
                    try clear c1
                    try clear p2
                    try clear c4
                    try clear c4b0
                    try clear c4b1
                    try clear c6
                    try clear c7
                    try clear c8
                    try clear c8b0
                    try clear c8b1
                    try clear c8b2
                    try clear c10
                    try clear c10b0
                    try clear c10b1
                    try clear c11
                    try clear c11b0
                    try clear c11b1
                    try clear c17
                    try clear c17b0
                    try clear p2
                    obtain ⟨x7_2, x10_2, x33_2, rfl, rfl, HA, HK2, HO_7, HO_9, HB⟩ := hrel
                    cases gk with
                    | zero => exact absurd HA.out (by simp [upstream_Round.l1])
                    | succ k2 =>
                      have H := HA.out
                      clear HA
                      simp only [upstream_Round.l1] at H
                      by_cases c18 : x33_2 < (l0.length : Int)
                      · rw [if_pos c18] at H
                        have c18b0 : decide (x33_2 < (l0.length : Int)) = true := decide_eq_true c18
                        clear c18
                        by_cases c19 : 0 ≤ x33_2
                        · rw [if_pos c19] at H
                          have c19b0 : decide (0 ≤ x33_2) = true := decide_eq_true c19
                          clear c19
                          by_cases c20 : x33_2 < (l0.length : Int)
                          · rw [if_pos c20] at H
                            have c20b0 : decide (x33_2 < (l0.length : Int)) = true := decide_eq_true c20
                            clear c20
                            by_cases c21 : x33_2 < (x7_2.length : Int)
                            · rw [if_pos c21] at H
                              have c21b0 : decide (x33_2 < (x7_2.length : Int)) = true := decide_eq_true c21
                              clear c21
                              obtain ⟨y158, hy158⟩ : ∃ y_ : List Int, y_ = (x7_2.set (x33_2 : Int).toNat (wrap64 ((rd x7_2 x33_2) + ((rd_T29 l0 x33_2).f1)))) := ⟨_, rfl⟩
                              replace H : (if 0 ≤ x10_2 then (if x10_2 < (x7_2.length : Int) then (if (rd y158 x33_2) > (rd y158 x10_2) then (upstream_Round.l1 k2 l0 y158 t154 x9_1 x33_2 a1 x29_1 l0 (l0.length : Int) (wrap64 (x33_2 + 1))) else (upstream_Round.l1 k2 l0 y158 t154 x9_1 x10_2 a1 x29_1 l0 (l0.length : Int) (wrap64 (x33_2 + 1)))) else (none)) else (none)) = some (r1, r2) := by first | (rw [hy158]; with_reducible exact H) | (have H2_ := (Option.bind_some _ _).symm.trans H; rw [hy158]; with_reducible exact H2_) | (have H2_ := (Option.bind_some _ _).symm.trans H; with_reducible exact H2_) | with_reducible exact H | (rw [hy158]; exact H) | exact H
                              have Ny158 := Aside0.mk hy158
                              clear hy158
                              by_cases c23 : 0 ≤ x10_2
                              · rw [if_pos c23] at H
                                have c23b0 : decide (0 ≤ x10_2) = true := decide_eq_true c23
                                clear c23
                                by_cases c24 : x10_2 < (x7_2.length : Int)
                                · rw [if_pos c24] at H
                                  have c24b0 : decide (x10_2 < (x7_2.length : Int)) = true := decide_eq_true c24
                                  clear c24
                                  by_cases c25 : (rd y158 x33_2) > (rd y158 x10_2)
                                  · rw [if_pos c25] at H
                                    have c25b0 : decide ((rd y158 x10_2) < (rd y158 x33_2)) = true := decide_eq_true c25
                                    clear c25
                                    have H' := Aside0.mk H
                                    clear H
                                    have p155 : 0 ≤ (x33_2 : Int) := of_decide_eq_true (by first | (with_reducible assumption) | assumption)
                                    have q155 : x33_2 < (l0.length : Int) := of_decide_eq_true (by first | (with_reducible assumption) | assumption)
                                    obtain ⟨ad155, e155, hx155_0, hx155_1⟩ := at_T29 HR0.out x33_2 p155 q155
                                    cases e155
                                    replace hx155_0 := (HB.out.cell (World.block_lt_of_cell? w _ hx155_0)).trans hx155_0
                                    replace hx155_1 := (HB.out.cell (World.block_lt_of_cell? w _ hx155_1)).trans hx155_1
                                    replace p155 := eq_true p155
                                    replace q155 := eq_true q155
                                    try go_wp2_with (first | ((with_reducible refine gate_dst (N := 12) rfl ?_); refine box_event ?hg (N := 12) ?hd (cs := #[.string (⟨#[]⟩ : ByteArray), .int .i64 0]) (t := 29) ?hr ?_; (case hd => rfl); (case hg => rfl); (case hr => first | (go_simp; done) | (go_simp; rfl)); intro gb156 hg w26 hbox hb; have n0_ := Aside0.mk (Kd.R_below (by (with_reducible repeat (first | apply Kd.R_alloc | apply Kd.R_drewN | apply Kd.R_drew)); exact HO_7.out) hb); have n1_ := Aside0.mk (Kd.R_below (by (with_reducible repeat (first | apply Kd.R_alloc | apply Kd.R_drewN | apply Kd.R_drew)); exact HO_9.out) hb); have n2_ := Aside0.mk (below_step (by repeat (first | (with_reducible first | exact HB.out | apply below_alloc | apply pw_below_drewN | apply below_drew1) | exact HB.out)) hb); have n3_ := Aside0.mk (hbox); have n4_ := Aside0.mk ((by rw [hg]; exact (below_size (by repeat (first | (with_reducible first | exact HB.out | apply below_alloc | apply pw_below_drewN | apply below_drew1) | exact HB.out))) : w.heap.size ≤ gb156)); have n5_ := Aside0.mk ((by rw [hg]; exact (below_size (by repeat (first | (with_reducible first | exact HB.out | apply below_alloc | apply pw_below_drewN | apply below_drew1) | exact HB.out))) : w.heap.size ≤ gb156)); clear HO_7; clear HO_9; clear HB; have HO_7 := n0_; have HO_9 := n1_; have HB := n2_; have BK156 := n3_; have GW156 := n4_; have GE156 := n5_; clear n0_ n1_ n2_ n3_ n4_ n5_; clear hb hbox hg; have hcz27_0 : w26.cell? ⟨gb156, 0, none⟩ = some (.string (⟨#[]⟩ : ByteArray)) := (blk_cell BK156.out 0).trans rfl; have hcz27_1 : w26.cell? ⟨gb156, 1, none⟩ = some (.int .i64 0) := (blk_cell BK156.out 1).trans rfl; have hfz27_0 := blk_frozen BK156.out 0; have hfz27_1 := blk_frozen BK156.out 1))
                                    have n0_ : Aside0 (Kd.R (Kd.int .i64) 3 ((w26.setCell ⟨gb156, 0, none⟩ (.string ((rd_T29 l0 x33_2).f0))).setCell ⟨gb156, 1, none⟩ (.int .i64 ((rd_T29 l0 x33_2).f1))) w.heap.size (fun _ => True) v152 x7_2) := ⟨by (with_reducible repeat (first | apply Kd.R_alloc | apply Kd.R_drewN | apply Kd.R_drew)); exact Kd.R_mono (Kd.R_far (p := ⟨gb156, 1, none⟩) (Kd.R_far (p := ⟨gb156, 0, none⟩) (Kd.R_types HO_7.out BK156.out (by decide)) (fun _ hk => hk.2) (.string ((rd_T29 l0 x33_2).f0))) (fun _ hk => hk.2) (.int .i64 ((rd_T29 l0 x33_2).f1))) (fun _ hk => trivial)⟩
                                    have n1_ : Aside0 (Kd.R Kd.string 9 ((w26.setCell ⟨gb156, 0, none⟩ (.string ((rd_T29 l0 x33_2).f0))).setCell ⟨gb156, 1, none⟩ (.int .i64 ((rd_T29 l0 x33_2).f1))) w.heap.size (fun _ => True) u9 x9_1) := ⟨by (with_reducible repeat (first | apply Kd.R_alloc | apply Kd.R_drewN | apply Kd.R_drew)); exact Kd.R_mono (Kd.R_far (p := ⟨gb156, 1, none⟩) (Kd.R_far (p := ⟨gb156, 0, none⟩) (Kd.R_types HO_9.out BK156.out (by decide)) (fun _ hk => hk.2) (.string ((rd_T29 l0 x33_2).f0))) (fun _ hk => hk.2) (.int .i64 ((rd_T29 l0 x33_2).f1))) (fun _ hk => trivial)⟩
                                    have n2_ : Aside0 (((w26.setCell ⟨gb156, 0, none⟩ (.string ((rd_T29 l0 x33_2).f0))).setCell ⟨gb156, 1, none⟩ (.int .i64 ((rd_T29 l0 x33_2).f1))).heap[gb156]? = some (.cells #[.string ((rd_T29 l0 x33_2).f0), .int .i64 ((rd_T29 l0 x33_2).f1)] 29 (0, 0))) := ⟨by (with_reducible repeat (first | refine blk_drewN ?_ _ | refine blk_drew ?_ | refine blk_alloc ?_ _)); refine blk_put (cs := #[.string ((rd_T29 l0 x33_2).f0), .int .i64 0]) ?_ 1 _ rfl; (with_reducible repeat (first | refine blk_drewN ?_ _ | refine blk_drew ?_ | refine blk_alloc ?_ _)); refine blk_put (cs := #[.string (⟨#[]⟩ : ByteArray), .int .i64 0]) ?_ 0 _ rfl; (with_reducible repeat (first | refine blk_drewN ?_ _ | refine blk_drew ?_ | refine blk_alloc ?_ _)); exact BK156.out⟩
                                    have n3_ : Aside0 (Below w.heap.size w ((w26.setCell ⟨gb156, 0, none⟩ (.string ((rd_T29 l0 x33_2).f0))).setCell ⟨gb156, 1, none⟩ (.int .i64 ((rd_T29 l0 x33_2).f1)))) := ⟨by repeat (first | (with_reducible first | exact HB.out | apply below_alloc | apply pw_below_drewN | apply below_drew1 | refine below_set ?_ GE156.out) | exact HB.out)⟩
                                    (try clear HO_7)
                                    (try clear HO_9)
                                    (try clear BK156)
                                    (try clear HB)
                                    generalize ((w26.setCell ⟨gb156, 0, none⟩ (.string ((rd_T29 l0 x33_2).f0))).setCell ⟨gb156, 1, none⟩ (.int .i64 ((rd_T29 l0 x33_2).f1))) = w28 at n0_ n1_ n2_ n3_ ⊢
                                    have HO_7 := n0_
                                    have HO_9 := n1_
                                    have BK156 := n2_
                                    have HB := n3_
                                    clear n0_ n1_ n2_ n3_
                                    have n0_ := Aside0.mk (Kd.R_drew HO_7.out)
                                    have n1_ := Aside0.mk (Kd.R_drew HO_9.out)
                                    have n2_ := Aside0.mk (blk_drew BK156.out)
                                    have n3_ := Aside0.mk (below_drew1 HB.out)
                                    clear HO_7
                                    clear HO_9
                                    clear BK156
                                    clear HB
                                    have HO_7 := n0_
                                    have HO_9 := n1_
                                    have BK156 := n2_
                                    have HB := n3_
                                    clear n0_ n1_ n2_ n3_
                                    obtain ⟨Ao30, co30, eo30⟩ := Kd.R_slice HO_7.out
                                    (first | subst eo30 | (injection eo30 with f1_ f2_ f3_; have f4_ := f1_.symm; have f5_ := f3_.symm; clear f1_ f2_ f3_; subst f4_; subst f5_))
                                    have p157 : 0 ≤ (x33_2 : Int) := of_decide_eq_true (by first | (with_reducible assumption) | assumption)
                                    have q157 : x33_2 < (x7_2.length : Int) := of_decide_eq_true (by first | (with_reducible assumption) | assumption)
                                    obtain ⟨ad157, e157, hx157_0⟩ := Kd.at_int (Kd.R_reads' HO_7.out).2.2 x33_2 p157 q157
                                    cases e157
                                    replace p157 := eq_true p157
                                    replace q157 := eq_true q157
                                    have p22 : 0 ≤ (x33_2 : Int) := of_decide_eq_true (by first | (with_reducible assumption) | assumption)
                                    have q22 : (x33_2 : Int) < ((x7_2.length : Int) : Int) := of_decide_eq_true (by first | (with_reducible assumption) | assumption)
                                    obtain ⟨go22, co22, eo22, gb22, gl22, cl22, HG22⟩ := Kd.R_form HO_7.out (by omega)
                                    (first | cases eo22 | (injection eo22 with ea_ en_ ec_; (first | subst ea_ | (injection ea_ with ea_; subst ea_)); subst ec_; clear en_))
                                    have GB22 := Aside0.mk gb22
                                    have GG22 := Aside0.mk HG22
                                    clear gb22 gl22 HG22
                                    (first | simp only [add_plain] at hx157_0 | skip)
                                    obtain ⟨hx22_0, hf22_0⟩ := Kd.R_celln 0 HO_7.out (x33_2 : Int) p22 q22
                                    replace p22 := eq_true p22
                                    replace q22 := eq_true q22
                                    have HP31 := Kd.R_putn HO_7.out (x33_2 : Int) (wrap64 ((rd x7_2 x33_2) + ((rd_T29 l0 x33_2).f1)))
                                    rw [← Ny158.out] at HP31
                                    have HQ31 := Aside0.mk HP31
                                    clear HP31
                                    refine start_ (n := 9) (S := fun w' => w'.cell? ⟨gb156, 0, none⟩ = some (.string ((rd_T29 l0 x33_2).f0)) ∧ w'.cell? ⟨gb156, 1, none⟩ = some (.int .i64 ((rd_T29 l0 x33_2).f1)) ∧ w'.cell? ⟨go22, (x33_2).toNat, none⟩ = some (.int .i64 (rd x7_2 x33_2))) (ds := [8]) #[false, false, false, false, false, false, false, false, false] (by kernel_rfl) rfl rfl ⟨(blk_cell BK156.out 0).trans rfl, (blk_cell BK156.out 1).trans rfl, hx157_0⟩ (fun hHeld => ?_); refine with_tabW upstream_Round.tab17 upstream_Round.bits17 (fun HT_ HW_ => ?_)
                                    generalize w28.drew = w29 at HO_7 HO_9 BK156 HB GG22 HQ31 hf22_0 hx157_0 hx22_0 hHeld ⊢
                                    refine pure_ (i := 0) (N := some 38) (v := ?_) (a' := ?_) #[true, false, false, false, false, false, false, false, false] rfl rfl (any_of HT_.out (by kernel_rfl)) (fun _ _ _ h => h) (Or.inl ⟨by rfl, ?_⟩) ?_ ?_
                                    rotate_left
                                    · intro w'
                                      go_simp
                                      with_reducible rfl
                                    rotate_left
                                    · simp only [Act.put, List.setIfInBounds_toArray, List.set_cons_zero, List.set_cons_succ, i64_w, i32_w]
                                      rfl
                                    refine pure_ (i := 1) (N := some 39) (v := ?_) (a' := ?_) #[true, true, false, false, false, false, false, false, false] rfl rfl (any_of HT_.out (by kernel_rfl)) (fun _ _ _ h => h) (Or.inl ⟨by rfl, ?_⟩) ?_ ?_
                                    rotate_left
                                    · intro w'
                                      go_simp
                                      with_reducible rfl
                                    rotate_left
                                    · simp only [Act.put, List.setIfInBounds_toArray, List.set_cons_zero, List.set_cons_succ, i64_w, i32_w]
                                      rfl
                                    refine pure_ (i := 2) (N := some 40) (v := ?_) (a' := ?_) #[true, true, true, false, false, false, false, false, false] rfl rfl (any_of HT_.out (by kernel_rfl)) (fun _ _ _ h => h) (Or.inl ⟨by rfl, ?_⟩) ?_ ?_
                                    rotate_left
                                    · intro w'
                                      go_simp
                                      with_reducible rfl
                                    rotate_left
                                    · simp only [Act.put, List.setIfInBounds_toArray, List.set_cons_zero, List.set_cons_succ, i64_w, i32_w]
                                      rfl
                                    refine pure_ (i := 4) (N := some 42) (v := ?_) (a' := ?_) #[true, true, true, false, true, false, false, false, false] rfl rfl (any_of HT_.out (by kernel_rfl)) (fun _ _ _ h => h) (Or.inl ⟨by rfl, ?_⟩) ?_ ?_
                                    rotate_left
                                    · intro w'
                                      go_simp
                                      with_reducible rfl
                                    rotate_left
                                    · simp only [Act.put, List.setIfInBounds_toArray, List.set_cons_zero, List.set_cons_succ, i64_w, i32_w]
                                      rfl
                                    refine take_ (i := 3) (N := some 41) (v := ?_) (a' := ?_) #[true, true, true, true, true, false, false, false, false] rfl rfl (take_ofW HT_.out HW_.out (by kernel_rfl)) (fun _ _ _ h => h) (Or.inl ⟨by rfl, ?_⟩) hHeld ?_ ?_
                                    rotate_left
                                    · rintro w' ⟨s0, s1, s2⟩
                                      go_simp
                                      with_reducible rfl
                                    rotate_left
                                    · simp only [Act.put, List.setIfInBounds_toArray, List.set_cons_zero, List.set_cons_succ, i64_w, i32_w]
                                      rfl
                                    refine take_ (i := 5) (N := some 43) (v := ?_) (a' := ?_) #[true, true, true, true, true, true, false, false, false] rfl rfl (take_ofW HT_.out HW_.out (by kernel_rfl)) (fun _ _ _ h => h) (Or.inl ⟨by rfl, ?_⟩) hHeld ?_ ?_
                                    rotate_left
                                    · rintro w' ⟨s0, s1, s2⟩
                                      go_simp
                                      with_reducible rfl
                                    rotate_left
                                    · simp only [Act.put, List.setIfInBounds_toArray, List.set_cons_zero, List.set_cons_succ, i64_w, i32_w]
                                      rfl
                                    refine pure_ (i := 6) (N := some 44) (v := ?_) (a' := ?_) #[true, true, true, true, true, true, true, false, false] rfl rfl (any_of HT_.out (by kernel_rfl)) (fun _ _ _ h => h) (Or.inl ⟨by rfl, ?_⟩) ?_ ?_
                                    rotate_left
                                    · intro w'
                                      go_simp
                                      with_reducible rfl
                                    rotate_left
                                    · simp only [Act.put, List.setIfInBounds_toArray, List.set_cons_zero, List.set_cons_succ, i64_w, i32_w]
                                      rfl
                                    refine pure_ (i := 7) (N := some 45) (v := ?_) (a' := ?_) #[true, true, true, true, true, true, true, true, false] rfl rfl (any_of HT_.out (by kernel_rfl)) (fun _ _ _ h => h) (Or.inl ⟨by rfl, ?_⟩) ?_ ?_
                                    rotate_left
                                    · intro w'
                                      go_simp
                                      with_reducible rfl
                                    rotate_left
                                    · simp only [Act.put, List.setIfInBounds_toArray, List.set_cons_zero, List.set_cons_succ, i64_w, i32_w]
                                      rfl
                                    refine last_ (i := 8) (N := none) #[true, true, true, true, true, true, true, true, true] rfl rfl (one_of HT_.out (by kernel_rfl)) (by decide) (fun K hK => ?_)
                                    refine skip_ (w1 := ?_) (by rfl) rfl ?_ ?_
                                    rotate_left
                                    · go_simp
                                      rfl
                                    refine hK.out _ _ ?_
                                    clear hK K
                                    refine done_ (done_of HT_.out (by kernel_rfl)) ?_
                                    try go_wp2
                                    have n0_ : Aside0 (Kd.R (Kd.int .i64) 3 (w29.setCell ⟨go22, (x33_2 : Int).toNat, none⟩ (.int .i64 (wrap64 ((rd x7_2 x33_2) + ((rd_T29 l0 x33_2).f1))))) w.heap.size (fun _ => True) (.slice (some ⟨go22, 0, none⟩) x7_2.length co30) y158) := ⟨by (with_reducible repeat (first | apply Kd.R_alloc | apply Kd.R_drewN | apply Kd.R_drew)); exact HQ31.out⟩
                                    have n1_ : Aside0 (Kd.R Kd.string 9 (w29.setCell ⟨go22, (x33_2 : Int).toNat, none⟩ (.int .i64 (wrap64 ((rd x7_2 x33_2) + ((rd_T29 l0 x33_2).f1))))) w.heap.size (fun _ => True) u9 x9_1) := ⟨by (with_reducible repeat (first | apply Kd.R_alloc | apply Kd.R_drewN | apply Kd.R_drew)); exact Kd.R_mono (Kd.R_far (p := ⟨go22, (x33_2 : Int).toNat, none⟩) (Kd.R_types HO_9.out GG22.out (by decide)) (fun _ hk => hk.2) (.int .i64 (wrap64 ((rd x7_2 x33_2) + ((rd_T29 l0 x33_2).f1))))) (fun _ hk => trivial)⟩
                                    have n2_ : Aside0 ((w29.setCell ⟨go22, (x33_2 : Int).toNat, none⟩ (.int .i64 (wrap64 ((rd x7_2 x33_2) + ((rd_T29 l0 x33_2).f1))))).heap[gb156]? = some (.cells #[.string ((rd_T29 l0 x33_2).f0), .int .i64 ((rd_T29 l0 x33_2).f1)] 29 (0, 0))) := ⟨by (with_reducible repeat (first | refine blk_drewN ?_ _ | refine blk_drew ?_ | refine blk_alloc ?_ _)); refine blk_far ?_ (by have h_ := Kd.R_ne HO_7.out BK156.out (by decide); intro e_; exact h_ (by rw [e_]; rfl)) _; (with_reducible repeat (first | refine blk_drewN ?_ _ | refine blk_drew ?_ | refine blk_alloc ?_ _)); exact BK156.out⟩
                                    have n3_ : Aside0 (Below w.heap.size w (w29.setCell ⟨go22, (x33_2 : Int).toNat, none⟩ (.int .i64 (wrap64 ((rd x7_2 x33_2) + ((rd_T29 l0 x33_2).f1)))))) := ⟨by repeat (first | (with_reducible first | exact HB.out | apply below_alloc | apply pw_below_drewN | apply below_drew1 | refine below_set ?_ GB22.out | refine below_set ?_ GE156.out) | exact HB.out)⟩
                                    (try clear HO_7)
                                    (try clear HO_9)
                                    (try clear BK156)
                                    (try clear HB)
                                    generalize (w29.setCell ⟨go22, (x33_2 : Int).toNat, none⟩ (.int .i64 (wrap64 ((rd x7_2 x33_2) + ((rd_T29 l0 x33_2).f1))))) = w32 at n0_ n1_ n2_ n3_ ⊢
                                    have HO_7 := n0_
                                    have HO_9 := n1_
                                    have BK156 := n2_
                                    have HB := n3_
                                    clear n0_ n1_ n2_ n3_
                                    have n0_ := Aside0.mk (Kd.R_drew HO_7.out)
                                    have n1_ := Aside0.mk (Kd.R_drew HO_9.out)
                                    have n2_ := Aside0.mk (blk_drew BK156.out)
                                    have n3_ := Aside0.mk (below_drew1 HB.out)
                                    clear HO_7
                                    clear HO_9
                                    clear BK156
                                    clear HB
                                    have HO_7 := n0_
                                    have HO_9 := n1_
                                    have BK156 := n2_
                                    have HB := n3_
                                    clear n0_ n1_ n2_ n3_
                                    have p159 : 0 ≤ (x33_2 : Int) := of_decide_eq_true (by first | (with_reducible assumption) | assumption)
                                    have q159 : x33_2 < (y158.length : Int) := (by have h_ : (x33_2 : Int) < ((x7_2.length : Int) : Int) := of_decide_eq_true (by first | (with_reducible assumption) | assumption); first | (have e_ := (Kd.R_reads' HO_7.out).1; omega) | simpa only [Ny158.out, List.length_set] using h_)
                                    have ql159 : ((x33_2 : Int) < ((x7_2.length : Int) : Int)) = True := eq_true (of_decide_eq_true (by first | (with_reducible assumption) | assumption))
                                    obtain ⟨ad159, e159, hx159_0⟩ := Kd.at_int (Kd.R_reads' HO_7.out).2.2 x33_2 p159 q159
                                    obtain rfl : (⟨go22, 0, none⟩ : Addr) = ad159 := (by injection e159)
                                    (first | simp only [add_plain] at hx159_0 | simp only [add_at] at hx159_0 | simp only [Addr.add, Nat.zero_add] at hx159_0 | skip)
                                    replace p159 := eq_true p159
                                    replace q159 := eq_true q159
                                    have p160 : 0 ≤ (x10_2 : Int) := of_decide_eq_true (by first | (with_reducible assumption) | assumption)
                                    have q160 : x10_2 < (y158.length : Int) := (by have h_ : (x10_2 : Int) < ((x7_2.length : Int) : Int) := of_decide_eq_true (by first | (with_reducible assumption) | assumption); first | (have e_ := (Kd.R_reads' HO_7.out).1; omega) | simpa only [Ny158.out, List.length_set] using h_)
                                    have ql160 : ((x10_2 : Int) < ((x7_2.length : Int) : Int)) = True := eq_true (of_decide_eq_true (by first | (with_reducible assumption) | assumption))
                                    obtain ⟨ad160, e160, hx160_0⟩ := Kd.at_int (Kd.R_reads' HO_7.out).2.2 x10_2 p160 q160
                                    obtain rfl : (⟨go22, 0, none⟩ : Addr) = ad160 := (by injection e160)
                                    (first | simp only [add_plain] at hx160_0 | simp only [add_at] at hx160_0 | simp only [Addr.add, Nat.zero_add] at hx160_0 | skip)
                                    replace p160 := eq_true p160
                                    replace q160 := eq_true q160
                                    refine start_ (n := 9) (S := fun w' => w'.cell? ⟨go22, (x33_2).toNat, none⟩ = some (.int .i64 (rd y158 x33_2)) ∧ w'.cell? ⟨go22, (x10_2).toNat, none⟩ = some (.int .i64 (rd y158 x10_2))) (ds := []) #[false, false, false, false, false, false, false, false, false] (by kernel_rfl) rfl rfl ⟨hx159_0, hx160_0⟩ (fun hHeld => ?_); refine with_tabW upstream_Round.tab18 upstream_Round.bits18 (fun HT_ HW_ => ?_)
                                    generalize w32.drew = w33 at HO_7 HO_9 BK156 HB HQ31 hx159_0 hx160_0 hHeld ⊢
                                    refine pure_ (i := 0) (N := some 46) (v := ?_) (a' := ?_) #[true, false, false, false, false, false, false, false, false] rfl rfl (any_of HT_.out (by kernel_rfl)) (fun _ _ _ h => h) (Or.inl ⟨by rfl, ?_⟩) ?_ ?_
                                    rotate_left
                                    · intro w'
                                      go_simp
                                      with_reducible rfl
                                    rotate_left
                                    · simp only [Act.put, List.setIfInBounds_toArray, List.set_cons_zero, List.set_cons_succ, i64_w, i32_w]
                                      rfl
                                    refine pure_ (i := 1) (N := some 47) (v := ?_) (a' := ?_) #[true, true, false, false, false, false, false, false, false] rfl rfl (any_of HT_.out (by kernel_rfl)) (fun _ _ _ h => h) (Or.inl ⟨by rfl, ?_⟩) ?_ ?_
                                    rotate_left
                                    · intro w'
                                      go_simp
                                      with_reducible rfl
                                    rotate_left
                                    · simp only [Act.put, List.setIfInBounds_toArray, List.set_cons_zero, List.set_cons_succ, i64_w, i32_w]
                                      rfl
                                    refine pure_ (i := 2) (N := some 48) (v := ?_) (a' := ?_) #[true, true, true, false, false, false, false, false, false] rfl rfl (any_of HT_.out (by kernel_rfl)) (fun _ _ _ h => h) (Or.inl ⟨by rfl, ?_⟩) ?_ ?_
                                    rotate_left
                                    · intro w'
                                      go_simp
                                      with_reducible rfl
                                    rotate_left
                                    · simp only [Act.put, List.setIfInBounds_toArray, List.set_cons_zero, List.set_cons_succ, i64_w, i32_w]
                                      rfl
                                    refine pure_ (i := 4) (N := some 50) (v := ?_) (a' := ?_) #[true, true, true, false, true, false, false, false, false] rfl rfl (any_of HT_.out (by kernel_rfl)) (fun _ _ _ h => h) (Or.inl ⟨by rfl, ?_⟩) ?_ ?_
                                    rotate_left
                                    · intro w'
                                      go_simp
                                      with_reducible rfl
                                    rotate_left
                                    · simp only [Act.put, List.setIfInBounds_toArray, List.set_cons_zero, List.set_cons_succ, i64_w, i32_w]
                                      rfl
                                    refine pure_ (i := 5) (N := some 51) (v := ?_) (a' := ?_) #[true, true, true, false, true, true, false, false, false] rfl rfl (any_of HT_.out (by kernel_rfl)) (fun _ _ _ h => h) (Or.inl ⟨by rfl, ?_⟩) ?_ ?_
                                    rotate_left
                                    · intro w'
                                      go_simp
                                      with_reducible rfl
                                    rotate_left
                                    · simp only [Act.put, List.setIfInBounds_toArray, List.set_cons_zero, List.set_cons_succ, i64_w, i32_w]
                                      rfl
                                    refine pure_ (i := 6) (N := some 52) (v := ?_) (a' := ?_) #[true, true, true, false, true, true, true, false, false] rfl rfl (any_of HT_.out (by kernel_rfl)) (fun _ _ _ h => h) (Or.inl ⟨by rfl, ?_⟩) ?_ ?_
                                    rotate_left
                                    · intro w'
                                      go_simp
                                      with_reducible rfl
                                    rotate_left
                                    · simp only [Act.put, List.setIfInBounds_toArray, List.set_cons_zero, List.set_cons_succ, i64_w, i32_w]
                                      rfl
                                    refine take_ (i := 3) (N := some 49) (v := ?_) (a' := ?_) #[true, true, true, true, true, true, true, false, false] rfl rfl (take_ofW HT_.out HW_.out (by kernel_rfl)) (fun _ _ _ h => h) (Or.inl ⟨by rfl, ?_⟩) hHeld ?_ ?_
                                    rotate_left
                                    · rintro w' ⟨s0, s1⟩
                                      go_simp
                                      with_reducible rfl
                                    rotate_left
                                    · simp only [Act.put, List.setIfInBounds_toArray, List.set_cons_zero, List.set_cons_succ, i64_w, i32_w]
                                      rfl
                                    refine take_ (i := 7) (N := some 53) (v := ?_) (a' := ?_) #[true, true, true, true, true, true, true, true, false] rfl rfl (take_ofW HT_.out HW_.out (by kernel_rfl)) (fun _ _ _ h => h) (Or.inl ⟨by rfl, ?_⟩) hHeld ?_ ?_
                                    rotate_left
                                    · rintro w' ⟨s0, s1⟩
                                      go_simp
                                      with_reducible rfl
                                    rotate_left
                                    · simp only [Act.put, List.setIfInBounds_toArray, List.set_cons_zero, List.set_cons_succ, i64_w, i32_w]
                                      rfl
                                    refine pure_ (i := 8) (N := some 54) (v := ?_) (a' := ?_) #[true, true, true, true, true, true, true, true, true] rfl rfl (any_of HT_.out (by kernel_rfl)) (fun _ _ _ h => h) (Or.inl ⟨by rfl, ?_⟩) ?_ ?_
                                    rotate_left
                                    · intro w'
                                      go_simp
                                      with_reducible rfl
                                    rotate_left
                                    · simp only [Act.put, List.setIfInBounds_toArray, List.set_cons_zero, List.set_cons_succ, i64_w, i32_w]
                                      rfl
                                    refine done_ (done_of HT_.out (by kernel_rfl)) ?_
                                    try go_wp2
                                    go_roundg k2
                                    case measure => have := HK1.out; have := HK2.out; omega
                                    case rel => exact ⟨(y158), (x33_2), (wrap64 (x33_2 + 1)), (by first | rfl | (simp; done) | (simp [*]; done)), (by first | rfl | (simp; done) | (simp [*]; done)), H', ⟨by have := HK1.out; have := HK2.out; omega⟩, ⟨by (with_reducible repeat (first | apply Kd.R_alloc | apply Kd.R_drewN | apply Kd.R_drew)); exact HO_7.out⟩, ⟨by (with_reducible repeat (first | apply Kd.R_alloc | apply Kd.R_drewN | apply Kd.R_drew)); exact HO_9.out⟩, ⟨by repeat (first | (with_reducible first | exact HB.out | apply below_alloc | apply pw_below_drewN | apply below_drew1 | refine below_set ?_ GE156.out) | exact HB.out)⟩⟩
                                  · rw [if_neg c25] at H
                                    have c25b0 : decide ((rd y158 x10_2) < (rd y158 x33_2)) = false := decide_eq_false c25
                                    clear c25
                                    have H' := Aside0.mk H
                                    clear H
                                    have p155 : 0 ≤ (x33_2 : Int) := of_decide_eq_true (by first | (with_reducible assumption) | assumption)
                                    have q155 : x33_2 < (l0.length : Int) := of_decide_eq_true (by first | (with_reducible assumption) | assumption)
                                    obtain ⟨ad155, e155, hx155_0, hx155_1⟩ := at_T29 HR0.out x33_2 p155 q155
                                    cases e155
                                    replace hx155_0 := (HB.out.cell (World.block_lt_of_cell? w _ hx155_0)).trans hx155_0
                                    replace hx155_1 := (HB.out.cell (World.block_lt_of_cell? w _ hx155_1)).trans hx155_1
                                    replace p155 := eq_true p155
                                    replace q155 := eq_true q155
                                    try go_wp2_with (first | ((with_reducible refine gate_dst (N := 12) rfl ?_); refine box_event ?hg (N := 12) ?hd (cs := #[.string (⟨#[]⟩ : ByteArray), .int .i64 0]) (t := 29) ?hr ?_; (case hd => rfl); (case hg => rfl); (case hr => first | (go_simp; done) | (go_simp; rfl)); intro gb156 hg w34 hbox hb; have n0_ := Aside0.mk (Kd.R_below (by (with_reducible repeat (first | apply Kd.R_alloc | apply Kd.R_drewN | apply Kd.R_drew)); exact HO_7.out) hb); have n1_ := Aside0.mk (Kd.R_below (by (with_reducible repeat (first | apply Kd.R_alloc | apply Kd.R_drewN | apply Kd.R_drew)); exact HO_9.out) hb); have n2_ := Aside0.mk (below_step (by repeat (first | (with_reducible first | exact HB.out | apply below_alloc | apply pw_below_drewN | apply below_drew1) | exact HB.out)) hb); have n3_ := Aside0.mk (hbox); have n4_ := Aside0.mk ((by rw [hg]; exact (below_size (by repeat (first | (with_reducible first | exact HB.out | apply below_alloc | apply pw_below_drewN | apply below_drew1) | exact HB.out))) : w.heap.size ≤ gb156)); have n5_ := Aside0.mk ((by rw [hg]; exact (below_size (by repeat (first | (with_reducible first | exact HB.out | apply below_alloc | apply pw_below_drewN | apply below_drew1) | exact HB.out))) : w.heap.size ≤ gb156)); clear HO_7; clear HO_9; clear HB; have HO_7 := n0_; have HO_9 := n1_; have HB := n2_; have BK156 := n3_; have GW156 := n4_; have GE156 := n5_; clear n0_ n1_ n2_ n3_ n4_ n5_; clear hb hbox hg; have hcz35_0 : w34.cell? ⟨gb156, 0, none⟩ = some (.string (⟨#[]⟩ : ByteArray)) := (blk_cell BK156.out 0).trans rfl; have hcz35_1 : w34.cell? ⟨gb156, 1, none⟩ = some (.int .i64 0) := (blk_cell BK156.out 1).trans rfl; have hfz35_0 := blk_frozen BK156.out 0; have hfz35_1 := blk_frozen BK156.out 1))
                                    have n0_ : Aside0 (Kd.R (Kd.int .i64) 3 ((w34.setCell ⟨gb156, 0, none⟩ (.string ((rd_T29 l0 x33_2).f0))).setCell ⟨gb156, 1, none⟩ (.int .i64 ((rd_T29 l0 x33_2).f1))) w.heap.size (fun _ => True) v152 x7_2) := ⟨by (with_reducible repeat (first | apply Kd.R_alloc | apply Kd.R_drewN | apply Kd.R_drew)); exact Kd.R_mono (Kd.R_far (p := ⟨gb156, 1, none⟩) (Kd.R_far (p := ⟨gb156, 0, none⟩) (Kd.R_types HO_7.out BK156.out (by decide)) (fun _ hk => hk.2) (.string ((rd_T29 l0 x33_2).f0))) (fun _ hk => hk.2) (.int .i64 ((rd_T29 l0 x33_2).f1))) (fun _ hk => trivial)⟩
                                    have n1_ : Aside0 (Kd.R Kd.string 9 ((w34.setCell ⟨gb156, 0, none⟩ (.string ((rd_T29 l0 x33_2).f0))).setCell ⟨gb156, 1, none⟩ (.int .i64 ((rd_T29 l0 x33_2).f1))) w.heap.size (fun _ => True) u9 x9_1) := ⟨by (with_reducible repeat (first | apply Kd.R_alloc | apply Kd.R_drewN | apply Kd.R_drew)); exact Kd.R_mono (Kd.R_far (p := ⟨gb156, 1, none⟩) (Kd.R_far (p := ⟨gb156, 0, none⟩) (Kd.R_types HO_9.out BK156.out (by decide)) (fun _ hk => hk.2) (.string ((rd_T29 l0 x33_2).f0))) (fun _ hk => hk.2) (.int .i64 ((rd_T29 l0 x33_2).f1))) (fun _ hk => trivial)⟩
                                    have n2_ : Aside0 (((w34.setCell ⟨gb156, 0, none⟩ (.string ((rd_T29 l0 x33_2).f0))).setCell ⟨gb156, 1, none⟩ (.int .i64 ((rd_T29 l0 x33_2).f1))).heap[gb156]? = some (.cells #[.string ((rd_T29 l0 x33_2).f0), .int .i64 ((rd_T29 l0 x33_2).f1)] 29 (0, 0))) := ⟨by (with_reducible repeat (first | refine blk_drewN ?_ _ | refine blk_drew ?_ | refine blk_alloc ?_ _)); refine blk_put (cs := #[.string ((rd_T29 l0 x33_2).f0), .int .i64 0]) ?_ 1 _ rfl; (with_reducible repeat (first | refine blk_drewN ?_ _ | refine blk_drew ?_ | refine blk_alloc ?_ _)); refine blk_put (cs := #[.string (⟨#[]⟩ : ByteArray), .int .i64 0]) ?_ 0 _ rfl; (with_reducible repeat (first | refine blk_drewN ?_ _ | refine blk_drew ?_ | refine blk_alloc ?_ _)); exact BK156.out⟩
                                    have n3_ : Aside0 (Below w.heap.size w ((w34.setCell ⟨gb156, 0, none⟩ (.string ((rd_T29 l0 x33_2).f0))).setCell ⟨gb156, 1, none⟩ (.int .i64 ((rd_T29 l0 x33_2).f1)))) := ⟨by repeat (first | (with_reducible first | exact HB.out | apply below_alloc | apply pw_below_drewN | apply below_drew1 | refine below_set ?_ GE156.out) | exact HB.out)⟩
                                    (try clear HO_7)
                                    (try clear HO_9)
                                    (try clear BK156)
                                    (try clear HB)
                                    generalize ((w34.setCell ⟨gb156, 0, none⟩ (.string ((rd_T29 l0 x33_2).f0))).setCell ⟨gb156, 1, none⟩ (.int .i64 ((rd_T29 l0 x33_2).f1))) = w36 at n0_ n1_ n2_ n3_ ⊢
                                    have HO_7 := n0_
                                    have HO_9 := n1_
                                    have BK156 := n2_
                                    have HB := n3_
                                    clear n0_ n1_ n2_ n3_
                                    have n0_ := Aside0.mk (Kd.R_drew HO_7.out)
                                    have n1_ := Aside0.mk (Kd.R_drew HO_9.out)
                                    have n2_ := Aside0.mk (blk_drew BK156.out)
                                    have n3_ := Aside0.mk (below_drew1 HB.out)
                                    clear HO_7
                                    clear HO_9
                                    clear BK156
                                    clear HB
                                    have HO_7 := n0_
                                    have HO_9 := n1_
                                    have BK156 := n2_
                                    have HB := n3_
                                    clear n0_ n1_ n2_ n3_
                                    obtain ⟨Ao38, co38, eo38⟩ := Kd.R_slice HO_7.out
                                    (first | subst eo38 | (injection eo38 with f1_ f2_ f3_; have f4_ := f1_.symm; have f5_ := f3_.symm; clear f1_ f2_ f3_; subst f4_; subst f5_))
                                    have p157 : 0 ≤ (x33_2 : Int) := of_decide_eq_true (by first | (with_reducible assumption) | assumption)
                                    have q157 : x33_2 < (x7_2.length : Int) := of_decide_eq_true (by first | (with_reducible assumption) | assumption)
                                    obtain ⟨ad157, e157, hx157_0⟩ := Kd.at_int (Kd.R_reads' HO_7.out).2.2 x33_2 p157 q157
                                    cases e157
                                    replace p157 := eq_true p157
                                    replace q157 := eq_true q157
                                    have p22 : 0 ≤ (x33_2 : Int) := of_decide_eq_true (by first | (with_reducible assumption) | assumption)
                                    have q22 : (x33_2 : Int) < ((x7_2.length : Int) : Int) := of_decide_eq_true (by first | (with_reducible assumption) | assumption)
                                    obtain ⟨go22, co22, eo22, gb22, gl22, cl22, HG22⟩ := Kd.R_form HO_7.out (by omega)
                                    (first | cases eo22 | (injection eo22 with ea_ en_ ec_; (first | subst ea_ | (injection ea_ with ea_; subst ea_)); subst ec_; clear en_))
                                    have GB22 := Aside0.mk gb22
                                    have GG22 := Aside0.mk HG22
                                    clear gb22 gl22 HG22
                                    (first | simp only [add_plain] at hx157_0 | skip)
                                    obtain ⟨hx22_0, hf22_0⟩ := Kd.R_celln 0 HO_7.out (x33_2 : Int) p22 q22
                                    replace p22 := eq_true p22
                                    replace q22 := eq_true q22
                                    have HP39 := Kd.R_putn HO_7.out (x33_2 : Int) (wrap64 ((rd x7_2 x33_2) + ((rd_T29 l0 x33_2).f1)))
                                    rw [← Ny158.out] at HP39
                                    have HQ39 := Aside0.mk HP39
                                    clear HP39
                                    refine start_ (n := 9) (S := fun w' => w'.cell? ⟨gb156, 0, none⟩ = some (.string ((rd_T29 l0 x33_2).f0)) ∧ w'.cell? ⟨gb156, 1, none⟩ = some (.int .i64 ((rd_T29 l0 x33_2).f1)) ∧ w'.cell? ⟨go22, (x33_2).toNat, none⟩ = some (.int .i64 (rd x7_2 x33_2))) (ds := [8]) #[false, false, false, false, false, false, false, false, false] (by kernel_rfl) rfl rfl ⟨(blk_cell BK156.out 0).trans rfl, (blk_cell BK156.out 1).trans rfl, hx157_0⟩ (fun hHeld => ?_); refine with_tabW upstream_Round.tab17 upstream_Round.bits17 (fun HT_ HW_ => ?_)
                                    generalize w36.drew = w37 at HO_7 HO_9 BK156 HB GG22 HQ39 hf22_0 hx157_0 hx22_0 hHeld ⊢
                                    refine pure_ (i := 0) (N := some 38) (v := ?_) (a' := ?_) #[true, false, false, false, false, false, false, false, false] rfl rfl (any_of HT_.out (by kernel_rfl)) (fun _ _ _ h => h) (Or.inl ⟨by rfl, ?_⟩) ?_ ?_
                                    rotate_left
                                    · intro w'
                                      go_simp
                                      with_reducible rfl
                                    rotate_left
                                    · simp only [Act.put, List.setIfInBounds_toArray, List.set_cons_zero, List.set_cons_succ, i64_w, i32_w]
                                      rfl
                                    refine pure_ (i := 1) (N := some 39) (v := ?_) (a' := ?_) #[true, true, false, false, false, false, false, false, false] rfl rfl (any_of HT_.out (by kernel_rfl)) (fun _ _ _ h => h) (Or.inl ⟨by rfl, ?_⟩) ?_ ?_
                                    rotate_left
                                    · intro w'
                                      go_simp
                                      with_reducible rfl
                                    rotate_left
                                    · simp only [Act.put, List.setIfInBounds_toArray, List.set_cons_zero, List.set_cons_succ, i64_w, i32_w]
                                      rfl
                                    refine pure_ (i := 2) (N := some 40) (v := ?_) (a' := ?_) #[true, true, true, false, false, false, false, false, false] rfl rfl (any_of HT_.out (by kernel_rfl)) (fun _ _ _ h => h) (Or.inl ⟨by rfl, ?_⟩) ?_ ?_
                                    rotate_left
                                    · intro w'
                                      go_simp
                                      with_reducible rfl
                                    rotate_left
                                    · simp only [Act.put, List.setIfInBounds_toArray, List.set_cons_zero, List.set_cons_succ, i64_w, i32_w]
                                      rfl
                                    refine pure_ (i := 4) (N := some 42) (v := ?_) (a' := ?_) #[true, true, true, false, true, false, false, false, false] rfl rfl (any_of HT_.out (by kernel_rfl)) (fun _ _ _ h => h) (Or.inl ⟨by rfl, ?_⟩) ?_ ?_
                                    rotate_left
                                    · intro w'
                                      go_simp
                                      with_reducible rfl
                                    rotate_left
                                    · simp only [Act.put, List.setIfInBounds_toArray, List.set_cons_zero, List.set_cons_succ, i64_w, i32_w]
                                      rfl
                                    refine take_ (i := 3) (N := some 41) (v := ?_) (a' := ?_) #[true, true, true, true, true, false, false, false, false] rfl rfl (take_ofW HT_.out HW_.out (by kernel_rfl)) (fun _ _ _ h => h) (Or.inl ⟨by rfl, ?_⟩) hHeld ?_ ?_
                                    rotate_left
                                    · rintro w' ⟨s0, s1, s2⟩
                                      go_simp
                                      with_reducible rfl
                                    rotate_left
                                    · simp only [Act.put, List.setIfInBounds_toArray, List.set_cons_zero, List.set_cons_succ, i64_w, i32_w]
                                      rfl
                                    refine take_ (i := 5) (N := some 43) (v := ?_) (a' := ?_) #[true, true, true, true, true, true, false, false, false] rfl rfl (take_ofW HT_.out HW_.out (by kernel_rfl)) (fun _ _ _ h => h) (Or.inl ⟨by rfl, ?_⟩) hHeld ?_ ?_
                                    rotate_left
                                    · rintro w' ⟨s0, s1, s2⟩
                                      go_simp
                                      with_reducible rfl
                                    rotate_left
                                    · simp only [Act.put, List.setIfInBounds_toArray, List.set_cons_zero, List.set_cons_succ, i64_w, i32_w]
                                      rfl
                                    refine pure_ (i := 6) (N := some 44) (v := ?_) (a' := ?_) #[true, true, true, true, true, true, true, false, false] rfl rfl (any_of HT_.out (by kernel_rfl)) (fun _ _ _ h => h) (Or.inl ⟨by rfl, ?_⟩) ?_ ?_
                                    rotate_left
                                    · intro w'
                                      go_simp
                                      with_reducible rfl
                                    rotate_left
                                    · simp only [Act.put, List.setIfInBounds_toArray, List.set_cons_zero, List.set_cons_succ, i64_w, i32_w]
                                      rfl
                                    refine pure_ (i := 7) (N := some 45) (v := ?_) (a' := ?_) #[true, true, true, true, true, true, true, true, false] rfl rfl (any_of HT_.out (by kernel_rfl)) (fun _ _ _ h => h) (Or.inl ⟨by rfl, ?_⟩) ?_ ?_
                                    rotate_left
                                    · intro w'
                                      go_simp
                                      with_reducible rfl
                                    rotate_left
                                    · simp only [Act.put, List.setIfInBounds_toArray, List.set_cons_zero, List.set_cons_succ, i64_w, i32_w]
                                      rfl
                                    refine last_ (i := 8) (N := none) #[true, true, true, true, true, true, true, true, true] rfl rfl (one_of HT_.out (by kernel_rfl)) (by decide) (fun K hK => ?_)
                                    refine skip_ (w1 := ?_) (by rfl) rfl ?_ ?_
                                    rotate_left
                                    · go_simp
                                      rfl
                                    refine hK.out _ _ ?_
                                    clear hK K
                                    refine done_ (done_of HT_.out (by kernel_rfl)) ?_
                                    try go_wp2
                                    have n0_ : Aside0 (Kd.R (Kd.int .i64) 3 (w37.setCell ⟨go22, (x33_2 : Int).toNat, none⟩ (.int .i64 (wrap64 ((rd x7_2 x33_2) + ((rd_T29 l0 x33_2).f1))))) w.heap.size (fun _ => True) (.slice (some ⟨go22, 0, none⟩) x7_2.length co38) y158) := ⟨by (with_reducible repeat (first | apply Kd.R_alloc | apply Kd.R_drewN | apply Kd.R_drew)); exact HQ39.out⟩
                                    have n1_ : Aside0 (Kd.R Kd.string 9 (w37.setCell ⟨go22, (x33_2 : Int).toNat, none⟩ (.int .i64 (wrap64 ((rd x7_2 x33_2) + ((rd_T29 l0 x33_2).f1))))) w.heap.size (fun _ => True) u9 x9_1) := ⟨by (with_reducible repeat (first | apply Kd.R_alloc | apply Kd.R_drewN | apply Kd.R_drew)); exact Kd.R_mono (Kd.R_far (p := ⟨go22, (x33_2 : Int).toNat, none⟩) (Kd.R_types HO_9.out GG22.out (by decide)) (fun _ hk => hk.2) (.int .i64 (wrap64 ((rd x7_2 x33_2) + ((rd_T29 l0 x33_2).f1))))) (fun _ hk => trivial)⟩
                                    have n2_ : Aside0 ((w37.setCell ⟨go22, (x33_2 : Int).toNat, none⟩ (.int .i64 (wrap64 ((rd x7_2 x33_2) + ((rd_T29 l0 x33_2).f1))))).heap[gb156]? = some (.cells #[.string ((rd_T29 l0 x33_2).f0), .int .i64 ((rd_T29 l0 x33_2).f1)] 29 (0, 0))) := ⟨by (with_reducible repeat (first | refine blk_drewN ?_ _ | refine blk_drew ?_ | refine blk_alloc ?_ _)); refine blk_far ?_ (by have h_ := Kd.R_ne HO_7.out BK156.out (by decide); intro e_; exact h_ (by rw [e_]; rfl)) _; (with_reducible repeat (first | refine blk_drewN ?_ _ | refine blk_drew ?_ | refine blk_alloc ?_ _)); exact BK156.out⟩
                                    have n3_ : Aside0 (Below w.heap.size w (w37.setCell ⟨go22, (x33_2 : Int).toNat, none⟩ (.int .i64 (wrap64 ((rd x7_2 x33_2) + ((rd_T29 l0 x33_2).f1)))))) := ⟨by repeat (first | (with_reducible first | exact HB.out | apply below_alloc | apply pw_below_drewN | apply below_drew1 | refine below_set ?_ GB22.out | refine below_set ?_ GE156.out) | exact HB.out)⟩
                                    (try clear HO_7)
                                    (try clear HO_9)
                                    (try clear BK156)
                                    (try clear HB)
                                    generalize (w37.setCell ⟨go22, (x33_2 : Int).toNat, none⟩ (.int .i64 (wrap64 ((rd x7_2 x33_2) + ((rd_T29 l0 x33_2).f1))))) = w40 at n0_ n1_ n2_ n3_ ⊢
                                    have HO_7 := n0_
                                    have HO_9 := n1_
                                    have BK156 := n2_
                                    have HB := n3_
                                    clear n0_ n1_ n2_ n3_
                                    have n0_ := Aside0.mk (Kd.R_drew HO_7.out)
                                    have n1_ := Aside0.mk (Kd.R_drew HO_9.out)
                                    have n2_ := Aside0.mk (blk_drew BK156.out)
                                    have n3_ := Aside0.mk (below_drew1 HB.out)
                                    clear HO_7
                                    clear HO_9
                                    clear BK156
                                    clear HB
                                    have HO_7 := n0_
                                    have HO_9 := n1_
                                    have BK156 := n2_
                                    have HB := n3_
                                    clear n0_ n1_ n2_ n3_
                                    have p159 : 0 ≤ (x33_2 : Int) := of_decide_eq_true (by first | (with_reducible assumption) | assumption)
                                    have q159 : x33_2 < (y158.length : Int) := (by have h_ : (x33_2 : Int) < ((x7_2.length : Int) : Int) := of_decide_eq_true (by first | (with_reducible assumption) | assumption); first | (have e_ := (Kd.R_reads' HO_7.out).1; omega) | simpa only [Ny158.out, List.length_set] using h_)
                                    have ql159 : ((x33_2 : Int) < ((x7_2.length : Int) : Int)) = True := eq_true (of_decide_eq_true (by first | (with_reducible assumption) | assumption))
                                    obtain ⟨ad159, e159, hx159_0⟩ := Kd.at_int (Kd.R_reads' HO_7.out).2.2 x33_2 p159 q159
                                    obtain rfl : (⟨go22, 0, none⟩ : Addr) = ad159 := (by injection e159)
                                    (first | simp only [add_plain] at hx159_0 | simp only [add_at] at hx159_0 | simp only [Addr.add, Nat.zero_add] at hx159_0 | skip)
                                    replace p159 := eq_true p159
                                    replace q159 := eq_true q159
                                    have p160 : 0 ≤ (x10_2 : Int) := of_decide_eq_true (by first | (with_reducible assumption) | assumption)
                                    have q160 : x10_2 < (y158.length : Int) := (by have h_ : (x10_2 : Int) < ((x7_2.length : Int) : Int) := of_decide_eq_true (by first | (with_reducible assumption) | assumption); first | (have e_ := (Kd.R_reads' HO_7.out).1; omega) | simpa only [Ny158.out, List.length_set] using h_)
                                    have ql160 : ((x10_2 : Int) < ((x7_2.length : Int) : Int)) = True := eq_true (of_decide_eq_true (by first | (with_reducible assumption) | assumption))
                                    obtain ⟨ad160, e160, hx160_0⟩ := Kd.at_int (Kd.R_reads' HO_7.out).2.2 x10_2 p160 q160
                                    obtain rfl : (⟨go22, 0, none⟩ : Addr) = ad160 := (by injection e160)
                                    (first | simp only [add_plain] at hx160_0 | simp only [add_at] at hx160_0 | simp only [Addr.add, Nat.zero_add] at hx160_0 | skip)
                                    replace p160 := eq_true p160
                                    replace q160 := eq_true q160
                                    refine start_ (n := 9) (S := fun w' => w'.cell? ⟨go22, (x33_2).toNat, none⟩ = some (.int .i64 (rd y158 x33_2)) ∧ w'.cell? ⟨go22, (x10_2).toNat, none⟩ = some (.int .i64 (rd y158 x10_2))) (ds := []) #[false, false, false, false, false, false, false, false, false] (by kernel_rfl) rfl rfl ⟨hx159_0, hx160_0⟩ (fun hHeld => ?_); refine with_tabW upstream_Round.tab18 upstream_Round.bits18 (fun HT_ HW_ => ?_)
                                    generalize w40.drew = w41 at HO_7 HO_9 BK156 HB HQ39 hx159_0 hx160_0 hHeld ⊢
                                    refine pure_ (i := 0) (N := some 46) (v := ?_) (a' := ?_) #[true, false, false, false, false, false, false, false, false] rfl rfl (any_of HT_.out (by kernel_rfl)) (fun _ _ _ h => h) (Or.inl ⟨by rfl, ?_⟩) ?_ ?_
                                    rotate_left
                                    · intro w'
                                      go_simp
                                      with_reducible rfl
                                    rotate_left
                                    · simp only [Act.put, List.setIfInBounds_toArray, List.set_cons_zero, List.set_cons_succ, i64_w, i32_w]
                                      rfl
                                    refine pure_ (i := 1) (N := some 47) (v := ?_) (a' := ?_) #[true, true, false, false, false, false, false, false, false] rfl rfl (any_of HT_.out (by kernel_rfl)) (fun _ _ _ h => h) (Or.inl ⟨by rfl, ?_⟩) ?_ ?_
                                    rotate_left
                                    · intro w'
                                      go_simp
                                      with_reducible rfl
                                    rotate_left
                                    · simp only [Act.put, List.setIfInBounds_toArray, List.set_cons_zero, List.set_cons_succ, i64_w, i32_w]
                                      rfl
                                    refine pure_ (i := 2) (N := some 48) (v := ?_) (a' := ?_) #[true, true, true, false, false, false, false, false, false] rfl rfl (any_of HT_.out (by kernel_rfl)) (fun _ _ _ h => h) (Or.inl ⟨by rfl, ?_⟩) ?_ ?_
                                    rotate_left
                                    · intro w'
                                      go_simp
                                      with_reducible rfl
                                    rotate_left
                                    · simp only [Act.put, List.setIfInBounds_toArray, List.set_cons_zero, List.set_cons_succ, i64_w, i32_w]
                                      rfl
                                    refine pure_ (i := 4) (N := some 50) (v := ?_) (a' := ?_) #[true, true, true, false, true, false, false, false, false] rfl rfl (any_of HT_.out (by kernel_rfl)) (fun _ _ _ h => h) (Or.inl ⟨by rfl, ?_⟩) ?_ ?_
                                    rotate_left
                                    · intro w'
                                      go_simp
                                      with_reducible rfl
                                    rotate_left
                                    · simp only [Act.put, List.setIfInBounds_toArray, List.set_cons_zero, List.set_cons_succ, i64_w, i32_w]
                                      rfl
                                    refine pure_ (i := 5) (N := some 51) (v := ?_) (a' := ?_) #[true, true, true, false, true, true, false, false, false] rfl rfl (any_of HT_.out (by kernel_rfl)) (fun _ _ _ h => h) (Or.inl ⟨by rfl, ?_⟩) ?_ ?_
                                    rotate_left
                                    · intro w'
                                      go_simp
                                      with_reducible rfl
                                    rotate_left
                                    · simp only [Act.put, List.setIfInBounds_toArray, List.set_cons_zero, List.set_cons_succ, i64_w, i32_w]
                                      rfl
                                    refine pure_ (i := 6) (N := some 52) (v := ?_) (a' := ?_) #[true, true, true, false, true, true, true, false, false] rfl rfl (any_of HT_.out (by kernel_rfl)) (fun _ _ _ h => h) (Or.inl ⟨by rfl, ?_⟩) ?_ ?_
                                    rotate_left
                                    · intro w'
                                      go_simp
                                      with_reducible rfl
                                    rotate_left
                                    · simp only [Act.put, List.setIfInBounds_toArray, List.set_cons_zero, List.set_cons_succ, i64_w, i32_w]
                                      rfl
                                    refine take_ (i := 3) (N := some 49) (v := ?_) (a' := ?_) #[true, true, true, true, true, true, true, false, false] rfl rfl (take_ofW HT_.out HW_.out (by kernel_rfl)) (fun _ _ _ h => h) (Or.inl ⟨by rfl, ?_⟩) hHeld ?_ ?_
                                    rotate_left
                                    · rintro w' ⟨s0, s1⟩
                                      go_simp
                                      with_reducible rfl
                                    rotate_left
                                    · simp only [Act.put, List.setIfInBounds_toArray, List.set_cons_zero, List.set_cons_succ, i64_w, i32_w]
                                      rfl
                                    refine take_ (i := 7) (N := some 53) (v := ?_) (a' := ?_) #[true, true, true, true, true, true, true, true, false] rfl rfl (take_ofW HT_.out HW_.out (by kernel_rfl)) (fun _ _ _ h => h) (Or.inl ⟨by rfl, ?_⟩) hHeld ?_ ?_
                                    rotate_left
                                    · rintro w' ⟨s0, s1⟩
                                      go_simp
                                      with_reducible rfl
                                    rotate_left
                                    · simp only [Act.put, List.setIfInBounds_toArray, List.set_cons_zero, List.set_cons_succ, i64_w, i32_w]
                                      rfl
                                    refine pure_ (i := 8) (N := some 54) (v := ?_) (a' := ?_) #[true, true, true, true, true, true, true, true, true] rfl rfl (any_of HT_.out (by kernel_rfl)) (fun _ _ _ h => h) (Or.inl ⟨by rfl, ?_⟩) ?_ ?_
                                    rotate_left
                                    · intro w'
                                      go_simp
                                      with_reducible rfl
                                    rotate_left
                                    · simp only [Act.put, List.setIfInBounds_toArray, List.set_cons_zero, List.set_cons_succ, i64_w, i32_w]
                                      rfl
                                    refine done_ (done_of HT_.out (by kernel_rfl)) ?_
                                    try go_wp2
                                    go_roundg k2
                                    case measure => have := HK1.out; have := HK2.out; omega
                                    case rel => exact ⟨(y158), (x10_2), (wrap64 (x33_2 + 1)), (by first | rfl | (simp; done) | (simp [*]; done)), (by first | rfl | (simp; done) | (simp [*]; done)), H', ⟨by have := HK1.out; have := HK2.out; omega⟩, ⟨by (with_reducible repeat (first | apply Kd.R_alloc | apply Kd.R_drewN | apply Kd.R_drew)); exact HO_7.out⟩, ⟨by (with_reducible repeat (first | apply Kd.R_alloc | apply Kd.R_drewN | apply Kd.R_drew)); exact HO_9.out⟩, ⟨by repeat (first | (with_reducible first | exact HB.out | apply below_alloc | apply pw_below_drewN | apply below_drew1 | refine below_set ?_ GE156.out) | exact HB.out)⟩⟩
                                · rw [if_neg c24] at H
                                  exact absurd H (by simp)
                              · rw [if_neg c23] at H
                                exact absurd H (by simp)
                            · rw [if_neg c21] at H
                              exact absurd H (by simp)
                          · rw [if_neg c20] at H
                            exact absurd H (by simp)
                        · rw [if_neg c19] at H
                          exact absurd H (by simp)
                      · rw [if_neg c18] at H
                        have c18b0 : decide (x33_2 < (l0.length : Int)) = false := decide_eq_false c18
                        clear c18
                        by_cases c42 : 0 ≤ x10_2
                        · rw [if_pos c42] at H
                          have c42b0 : decide (0 ≤ x10_2) = true := decide_eq_true c42
                          clear c42
                          by_cases c43 : x10_2 < (x7_2.length : Int)
                          · rw [if_pos c43] at H
                            have c43b0 : decide (x10_2 < (x7_2.length : Int)) = true := decide_eq_true c43
                            clear c43
                            obtain ⟨y162, hy162⟩ : ∃ y_ : List Int, y_ = (x7_2.set (x10_2 : Int).toNat (wrap64 ((rd x7_2 x10_2) - t154))) := ⟨_, rfl⟩
                            replace H : (if x10_2 < (l0.length : Int) then (if x9_1.length < 8796093022208 then (upstream_Round.l0 k2 l0 y162 t154 (x9_1 ++ [(rd_T29 l0 x10_2).f0]) a1 (wrap64 (x29_1 + 1))) else (none)) else (none)) = some (r1, r2) := by first | (rw [hy162]; with_reducible exact H) | (have H2_ := (Option.bind_some _ _).symm.trans H; rw [hy162]; with_reducible exact H2_) | (have H2_ := (Option.bind_some _ _).symm.trans H; with_reducible exact H2_) | with_reducible exact H | (rw [hy162]; exact H) | exact H
                            have Ny162 := Aside0.mk hy162
                            clear hy162
                            by_cases c45 : x10_2 < (l0.length : Int)
                            · rw [if_pos c45] at H
                              have c45b0 : decide (x10_2 < (l0.length : Int)) = true := decide_eq_true c45
                              clear c45
                              by_cases c46 : x9_1.length < 8796093022208
                              · rw [if_pos c46] at H
                                have LMc46 := Aside0.mk c46
                                clear c46
                                obtain ⟨y164, hy164⟩ : ∃ y_ : List ByteArray, y_ = (x9_1 ++ [(rd_T29 l0 x10_2).f0]) := ⟨_, rfl⟩
                                replace H : (upstream_Round.l0 k2 l0 y162 t154 y164 a1 (wrap64 (x29_1 + 1))) = some (r1, r2) := by first | (rw [hy164]; with_reducible exact H) | (have H2_ := (Option.bind_some _ _).symm.trans H; rw [hy164]; with_reducible exact H2_) | (have H2_ := (Option.bind_some _ _).symm.trans H; with_reducible exact H2_) | with_reducible exact H | (rw [hy164]; exact H) | exact H
                                have Ny164 := Aside0.mk hy164
                                clear hy164
                                have H' := Aside0.mk H
                                clear H
                                obtain ⟨Ao47, co47, eo47⟩ := Kd.R_slice HO_7.out
                                subst eo47
                                have p161 : 0 ≤ (x10_2 : Int) := of_decide_eq_true (by first | (with_reducible assumption) | assumption)
                                have q161 : x10_2 < (x7_2.length : Int) := of_decide_eq_true (by first | (with_reducible assumption) | assumption)
                                obtain ⟨ad161, e161, hx161_0⟩ := Kd.at_int (Kd.R_reads' HO_7.out).2.2 x10_2 p161 q161
                                cases e161
                                replace p161 := eq_true p161
                                replace q161 := eq_true q161
                                have p44 : 0 ≤ (x10_2 : Int) := of_decide_eq_true (by first | (with_reducible assumption) | assumption)
                                have q44 : (x10_2 : Int) < ((x7_2.length : Int) : Int) := of_decide_eq_true (by first | (with_reducible assumption) | assumption)
                                obtain ⟨go44, co44, eo44, gb44, gl44, cl44, HG44⟩ := Kd.R_form HO_7.out (by omega)
                                (first | cases eo44 | (injection eo44 with ea_ en_ ec_; (first | subst ea_ | (injection ea_ with ea_; subst ea_)); subst ec_; clear en_))
                                have GB44 := Aside0.mk gb44
                                have GG44 := Aside0.mk HG44
                                clear gb44 gl44 HG44
                                (first | simp only [add_plain] at hx161_0 | skip)
                                obtain ⟨hx44_0, hf44_0⟩ := Kd.R_celln 0 HO_7.out (x10_2 : Int) p44 q44
                                replace p44 := eq_true p44
                                replace q44 := eq_true q44
                                have HP48 := Kd.R_putg HO_7.out (x10_2 : Int) (wrap64 ((rd x7_2 x10_2) - t154))
                                go_wp2_with (first | ((with_reducible refine gate_store (t := 3) (p := 63) rfl ?_); refine store_event (t := 3) (p := 63) (v := ?vo_w49) (w1 := (wr.setCell ⟨go44, (x10_2 : Int).toNat, none⟩ (.int .i64 (wrap64 ((rd x7_2 x10_2) - t154))))) ?hg ?ho ?hn ?hr ?_; (case ho => rfl); (case hg => rfl); (case hn => rfl); (case hr => first | (go_simp; done) | (go_simp; rfl)); intro w49 hw; have hg : wr.grownBy w49 (some go44) := (by rw [hw]; exact HP48.2); have hp_ : Kd.R (Kd.int .i64) 3 w49 w.heap.size (fun _ => True) (.slice (some ⟨go44, 0, none⟩) x7_2.length co47) y162 := (by rw [hw, Ny162.out]; exact HP48.1); clear HP48; have n0_ := Aside0.mk (hp_); have n1_ := Aside0.mk (Kd.R_over' (v := (.slice (some ⟨go44, 0, none⟩) x7_2.length co47)) (by (with_reducible repeat (first | apply Kd.R_alloc | apply Kd.R_drewN | apply Kd.R_drew)); exact HO_9.out) (Kd.R_typed HO_7.out) (by decide) hg); have n2_ := Aside0.mk ((by rw [hw]; exact below_set (HB.out) GB44.out : Below w.heap.size w w49)); clear HO_7; clear HO_9; clear HB; have HO_7 := n0_; have HO_9 := n1_; have HB := n2_; clear n0_ n1_ n2_; clear hg hw hp_; have p163 : 0 ≤ (x10_2 : Int) := of_decide_eq_true (by first | (with_reducible assumption) | assumption); have q163 : x10_2 < (l0.length : Int) := of_decide_eq_true (by first | (with_reducible assumption) | assumption); obtain ⟨ad163, e163, hx163_0, hx163_1⟩ := at_T29 HR0.out x10_2 p163 q163; cases e163; replace hx163_0 := (HB.out.cell (World.block_lt_of_cell? w _ hx163_0)).trans hx163_0; replace hx163_1 := (HB.out.cell (World.block_lt_of_cell? w _ hx163_1)).trans hx163_1; replace p163 := eq_true p163; replace q163 := eq_true q163) | ((with_reducible refine gate_builtin (b := .append) (xs := #[.tmp 64, .tmp 70]) rfl ?_); at_builtin; refine Kd.R_append Kd.string (w0 := w) w.heap.size rfl (.tmp 64) (.tmp 70) 30 9 (.string ⟨#[]⟩) 16 rfl Tryz.underlying30 info9 rfl (by decide) (by omega) u9 x9_1 ((rd_T29 l0 x10_2).f0) [.string ((rd_T29 l0 x10_2).f0)] (fun _ => True) (fun _ => False) rfl rfl ?aP (fun _ hk => hk.elim) ?aF ?aO ?aB ?aS ?aL ?_; (case aP => exact rfl); (case aB => exact (by repeat (first | (with_reducible first | exact HB.out | apply below_alloc | apply pw_below_drewN | apply below_drew1) | exact HB.out))); (case aF => exact (fun _ _ => trivial)); (case aO => exact (by (with_reducible repeat (first | apply Kd.R_alloc | apply Kd.R_drewN | apply Kd.R_drew)); exact HO_9.out)); (case aS => exact (below_size (by repeat (first | (with_reducible first | exact HB.out | apply below_alloc | apply pw_below_drewN | apply below_drew1) | exact HB.out)))); (case aL => have := LMc46.out; omega); intro v165 w50 ho hb hg hat; rw [← Ny164.out] at ho; have n0_ := Aside0.mk (Kd.R_over' (by (with_reducible repeat (first | apply Kd.R_alloc | apply Kd.R_drewN | apply Kd.R_drew)); exact HO_7.out) (Kd.R_typed (by (with_reducible repeat (first | apply Kd.R_alloc | apply Kd.R_drewN | apply Kd.R_drew)); exact HO_9.out)) (by decide) hg); have n1_ := Aside0.mk (hb); have n2_ := Aside0.mk (ho); clear HO_7; clear HB; clear HO_9; have HO_7 := n0_; have HB := n1_; have HO166 := n2_; clear n0_ n1_ n2_; clear ho hb hg hat))
                                go_roundg k2
                                case measure => have := HK1.out; have := HK2.out; omega
                                case rel => exact ⟨(y162), (y164), (wrap64 (x29_1 + 1)), (by first | rfl | (simp; done) | (simp [*]; done)), H', ⟨by have := HK1.out; have := HK2.out; omega⟩, ⟨by (with_reducible repeat (first | apply Kd.R_alloc | apply Kd.R_drewN | apply Kd.R_drew)); exact HO_7.out⟩, ⟨by (with_reducible repeat (first | apply Kd.R_alloc | apply Kd.R_drewN | apply Kd.R_drew)); exact HO166.out⟩, ⟨by repeat (first | (with_reducible first | exact HB.out | apply below_alloc | apply pw_below_drewN | apply below_drew1) | exact HB.out)⟩⟩
                              · rw [if_neg c46] at H
                                exact absurd H (by simp)
                            · rw [if_neg c45] at H
                              exact absurd H (by simp)
                          · rw [if_neg c43] at H
                            exact absurd H (by simp)
                        · rw [if_neg c42] at H
                          exact absurd H (by simp)
                · rw [if_neg c17] at H
                  have c17b0 : decide (x29_1 < a1) = false := decide_eq_false c17
                  clear c17
                  simp only [Option.some.injEq, Prod.mk.injEq] at H
                  obtain ⟨rfl, rfl⟩ := H
                  go_wp2
                  go_ret2
                  exact ⟨_, by first | rfl | (simp [errW_none, errW_some] <;> rfl) | (simp [*, errW_none, errW_some] <;> rfl), by (with_reducible repeat (first | apply Kd.R_alloc | apply Kd.R_drewN | apply Kd.R_drew)); exact HO_9.out, by repeat (first | (with_reducible first | exact HB.out | apply below_alloc | apply pw_below_drewN | apply below_drew1) | exact HB.out)⟩
          · rw [if_neg c11] at H
            exact absurd H (by simp)
        · rw [if_neg c10] at H
          exact absurd H (by simp)
  · rw [if_neg c4] at H
    have c4b0 : (t149 == 0) = false := beq_eq_false_iff_ne.mpr c4
    have c4b1 : (t149 != 0) = true := bne_iff_ne.mpr c4
    simp only [Option.some.injEq, Prod.mk.injEq] at H
    obtain ⟨rfl, rfl⟩ := H
    go_enter Tryz.func7, Tryz.ntmps7
    go_wp2_with (first | ((with_reducible refine gate_callee (f := 17) rfl ?_); refine goesL_ (some 14) rfl rfl Tryz.func17 (by kernel_rfl) rfl #[.slice A0 l0.length c0] rfl (by (try simp only [List.map_toArray, List.map_cons, List.map_nil]); first | done | rfl | (simp only [List.length_drop, List.length_take]; rfl)) ?_; (with_reducible refine (upstream_CheckInstances.calls k _ _ l0 t149 _ ?side1 ?side2 A3.out).mono ?_); (case side1 => repeat (first | exact HR0.out | (with_reducible refine Kd.C_alloc ?_ _) | (with_reducible refine Kd.C_drewN ?_ _) | (with_reducible refine Kd.C_drew ?_))); (case side2 => exact HC0.out); rintro e w51 ⟨rfl, hb⟩; refine ⟨_, rfl, ?_⟩; have n0_ := Aside0.mk (below_step (by repeat (first | (with_reducible first | exact HB.out | apply below_alloc | apply pw_below_drewN | apply below_drew1) | exact HB.out)) hb); clear HB; have HB := n0_; clear n0_; (try clear hb); (try clear hb2); (try clear hk); (try clear hi)))
    go_ret2
    exact ⟨_, by first | rfl | (simp [errW_none, errW_some] <;> rfl) | (simp [*, errW_none, errW_some] <;> rfl), by first | exact Kd.R_nil _ _ _ _ _ | exact Kd.N_nil _ _ _ _ _ | exact Kd.V_nil _ _ _ _ _ | exact Kd.Q_nil _ _ _ _ _ | exact Kd.S_nil _ _ _ _ _, by repeat (first | (with_reducible first | exact HB.out | apply below_alloc | apply pw_below_drewN | apply below_drew1) | exact HB.out)⟩

end Go.Proofs.YthgjnpmebjlecaaGreatDoor.P
/- The machine's side, printed by a program of this session: each Go function named below comes to the Lean function of its name; conditions: those of each theorem. -/
namespace Go.Proofs.YthgjnpmebjlecaaGreatDoor.P
open Go.RowKit Go.Proofs.YthgjnpmebjlecaaGreatDoorW.PrintWords Go.Proofs.YthgjnpmebjlecaaGreatDoorW.PrintLast Go.Proofs.YthgjnpmebjlecaaGreatDoorW.PrintMore
attribute [local go_sem] max2_int min2_int max_two min_two max_three min_three max_four min_four   -- for this text's walks alone
set_option linter.unusedVariables false
set_option linter.unusedSimpArgs false

/-! ### token_Encode: function 23 -/
mutual
def token_Encode.l0 : Nat → ByteArray → List Int → Option (ByteArray)
  | 0, _, _ => none
  | k + 1, x0, x3 => if (x0.size : Int) > 0 then (token_Encode.l1 k x0 x3 (mn 3 (x0.size : Int)) 0 0) else (some (strOfNums x3))
def token_Encode.l1 : Nat → ByteArray → List Int → Int → Int → Int → Option (ByteArray)
  | 0, _, _, _, _, _ => none
  | k + 1, x0, x3, x4, x5, x14 => if x14 < 3 then (if x14 < x4 then (if 0 ≤ x14 then (if x14 < (x0.size : Int) then (token_Encode.l1 k x0 x3 x4 (Go.bits .or .i64 (wrap64 (x5 * 256)) (wrap64 (bt x0 x14))) (wrap64 (x14 + 1))) else (none)) else (none)) else (token_Encode.l1 k x0 x3 x4 (wrap64 (x5 * 256)) (wrap64 (x14 + 1)))) else (token_Encode.l2 k x0 x3 x4 x5 (wrap64 (x4 + 1)) 0)
def token_Encode.l2 : Nat → ByteArray → List Int → Int → Int → Int → Int → Option (ByteArray)
  | 0, _, _, _, _, _, _ => none
  | k + 1, x0, x3, x4, x5, x30, x31 => if x31 < x30 then (if 0 ≤ (wrap64 (18 - (wrap64 (6 * x31)))) then (if 0 ≤ (Go.bits .and .i64 (shr .i64 x5 (wrap64 (18 - (wrap64 (6 * x31))))) 63) then (if (Go.bits .and .i64 (shr .i64 x5 (wrap64 (18 - (wrap64 (6 * x31))))) 63) < 64 then (if x3.length < 140737488355328 then (token_Encode.l2 k x0 (x3 ++ [bt (⟨#[65, 66, 67, 68, 69, 70, 71, 72, 73, 74, 75, 76, 77, 78, 79, 80, 81, 82, 83, 84, 85, 86, 87, 88, 89, 90, 97, 98, 99, 100, 101, 102, 103, 104, 105, 106, 107, 108, 109, 110, 111, 112, 113, 114, 115, 116, 117, 118, 119, 120, 121, 122, 48, 49, 50, 51, 52, 53, 54, 55, 56, 57, 45, 95]⟩ : ByteArray) (Go.bits .and .i64 (shr .i64 x5 (wrap64 (18 - (wrap64 (6 * x31))))) 63)]) x4 x5 x30 (wrap64 (x31 + 1))) else (none)) else (none)) else (none)) else (none)) else (if 0 ≤ x4 then (if x4 ≤ (x0.size : Int) then (token_Encode.l0 k (x0.extract (x4 : Int).toNat x0.size) x3) else (none)) else (none))
end
def token_Encode.f (k : Nat) (a0 : ByteArray) : Option (ByteArray) := token_Encode.l0 k a0 ([] : List Int)
theorem token_Encode.mono_l : ∀ k, (∀ y0 y1, LeO (token_Encode.l0 k y0 y1) (token_Encode.l0 (k + 1) y0 y1)) ∧ (∀ y0 y1 y2 y3 y4, LeO (token_Encode.l1 k y0 y1 y2 y3 y4) (token_Encode.l1 (k + 1) y0 y1 y2 y3 y4)) ∧ (∀ y0 y1 y2 y3 y4 y5, LeO (token_Encode.l2 k y0 y1 y2 y3 y4 y5) (token_Encode.l2 (k + 1) y0 y1 y2 y3 y4 y5))
  | 0 => ⟨fun _ _ r h => by simp [token_Encode.l0] at h, fun _ _ _ _ _ r h => by simp [token_Encode.l1] at h, fun _ _ _ _ _ _ r h => by simp [token_Encode.l2] at h⟩
  | k + 1 => by
    obtain ⟨ih0, ih1, ih2⟩ := token_Encode.mono_l k
    refine ⟨?_, ?_, ?_⟩
    · intro y0 y1
      unfold token_Encode.l0
      repeat' first
      | (with_reducible exact ih0 _ _)
      | (with_reducible exact ih1 _ _ _ _ _)
      | (with_reducible exact ih2 _ _ _ _ _ _)
      | (with_reducible exact LeO.refl _)
      | (with_reducible exact LeO.none _)
      | (with_reducible refine LeO.ite ?_ ?_)
      | (with_reducible refine LeO.bind ?_ (fun _ => ?_))
      | exact ih0 _ _
      | exact ih1 _ _ _ _ _
      | exact ih2 _ _ _ _ _ _
      | exact LeO.none _
      | refine LeO.ite ?_ ?_
      | refine LeO.bind ?_ (fun _ => ?_)
    · intro y0 y1 y2 y3 y4
      unfold token_Encode.l1
      repeat' first
      | (with_reducible exact ih0 _ _)
      | (with_reducible exact ih1 _ _ _ _ _)
      | (with_reducible exact ih2 _ _ _ _ _ _)
      | (with_reducible exact LeO.refl _)
      | (with_reducible exact LeO.none _)
      | (with_reducible refine LeO.ite ?_ ?_)
      | (with_reducible refine LeO.bind ?_ (fun _ => ?_))
      | exact ih0 _ _
      | exact ih1 _ _ _ _ _
      | exact ih2 _ _ _ _ _ _
      | exact LeO.none _
      | refine LeO.ite ?_ ?_
      | refine LeO.bind ?_ (fun _ => ?_)
    · intro y0 y1 y2 y3 y4 y5
      unfold token_Encode.l2
      repeat' first
      | (with_reducible exact ih0 _ _)
      | (with_reducible exact ih1 _ _ _ _ _)
      | (with_reducible exact ih2 _ _ _ _ _ _)
      | (with_reducible exact LeO.refl _)
      | (with_reducible exact LeO.none _)
      | (with_reducible refine LeO.ite ?_ ?_)
      | (with_reducible refine LeO.bind ?_ (fun _ => ?_))
      | exact ih0 _ _
      | exact ih1 _ _ _ _ _
      | exact ih2 _ _ _ _ _ _
      | exact LeO.none _
      | refine LeO.ite ?_ ?_
      | refine LeO.bind ?_ (fun _ => ?_)
theorem token_Encode.mono : ∀ a0 k, LeO (token_Encode.f k a0) (token_Encode.f (k + 1) a0) := by
  intro a0 k
  obtain ⟨ih0, ih1, ih2⟩ := token_Encode.mono_l k
  unfold token_Encode.f
  repeat' first
      | (with_reducible exact ih0 _ _)
      | (with_reducible exact ih1 _ _ _ _ _)
      | (with_reducible exact ih2 _ _ _ _ _ _)
      | (with_reducible exact LeO.refl _)
      | (with_reducible exact LeO.none _)
      | (with_reducible refine LeO.ite ?_ ?_)
      | (with_reducible refine LeO.bind ?_ (fun _ => ?_))
      | exact ih0 _ _
      | exact ih1 _ _ _ _ _
      | exact ih2 _ _ _ _ _ _
      | exact LeO.none _
      | refine LeO.ite ?_ ?_
      | refine LeO.bind ?_ (fun _ => ?_)
set_option maxHeartbeats 8000000 in
set_option maxRecDepth 100000 in
theorem token_Encode.calls (k : Nat) (a0 : ByteArray) (r : ByteArray) (w : World) (h : token_Encode.f k a0 = some r) :
    Calls Tryz.prog 23 #[.string a0] w fun e w' => e = .returned (.string r) ∧ Below w.heap.size w w' := by
  have HB := Aside0.mk (Below.refl w.heap.size w)
  have H : (token_Encode.l0 k a0 ([] : List Int)) = some r := h
  clear h
  have H' := Aside0.mk H
  clear H
  go_enter Tryz.func23, Tryz.ntmps23
  go_wp2
  go_loopg [0, 3] k (fun kq v0 v3 w' => ∃ (x0_1 : ByteArray) (x3_1 : List Int), v0 = .string x0_1 ∧ Aside0 (token_Encode.l0 kq x0_1 x3_1 = some r) ∧ Aside0 (kq ≤ k) ∧ Aside0 (Kd.R (Kd.int .u8) 5 w' w.heap.size (fun _ => True) v3 x3_1) ∧ Aside0 (Below w.heap.size w w'))
  case atStart => exact ⟨(a0), (([] : List Int)), (by first | rfl | (simp; done) | (simp [*]; done)), H', ⟨Nat.le_refl _⟩, ⟨by first | exact Kd.R_nil _ _ _ _ _ | exact Kd.N_nil _ _ _ _ _ | exact Kd.V_nil _ _ _ _ _ | exact Kd.Q_nil _ _ _ _ _ | exact Kd.S_nil _ _ _ _ _⟩, ⟨by repeat (first | (with_reducible first | exact HB.out | apply below_alloc | apply pw_below_drewN | apply below_drew1) | exact HB.out)⟩⟩
  case round =>
    clear H'
    obtain ⟨x0_1, x3_1, rfl, HA, HK1, HO_3, HB⟩ := hrel
    cases gk with
    | zero => exact absurd HA.out (by simp [token_Encode.l0])
    | succ k1 =>
      have H := HA.out
      clear HA
      simp only [token_Encode.l0] at H
      by_cases c2 : (x0_1.size : Int) > 0
      · rw [if_pos c2] at H
        have c2b0 : decide (0 < (x0_1.size : Int)) = true := decide_eq_true c2
        have c2b1 : decide (0 < x0_1.size) = true := decide_eq_true (by omega)
        clear c2
        obtain ⟨ji3, hji3⟩ : ∃ j_ : Int, (mn 3 (x0_1.size : Int)) = j_ := ⟨_, rfl⟩
        replace H : (token_Encode.l1 k1 x0_1 x3_1 ji3 0 0) = some r := by first | (rw [hji3] at H; exact H) | (simp only [hji3] at H ⊢; exact H)
        have hji3_ : (if (x0_1.size : Int) < 3 then (x0_1.size : Int) else 3) = ji3 := hji3
        have H' := Aside0.mk H
        clear H
        go_wp2
        go_loopg [5, 14] k1 (fun kq v5 v14 w' => ∃ (x5_2 : Int) (x14_2 : Int), v5 = .int .i64 x5_2 ∧ v14 = .int .i64 x14_2 ∧ Aside0 (token_Encode.l1 kq x0_1 x3_1 ji3 x5_2 x14_2 = some r) ∧ Aside0 (kq ≤ k1) ∧ Aside0 (Kd.R (Kd.int .u8) 5 w' w.heap.size (fun _ => True) u3 x3_1) ∧ Aside0 (Below w.heap.size w w'))
        case atStart => exact ⟨(0), (0), (by first | rfl | (simp; done) | (simp [*]; done)), (by first | rfl | (simp; done) | (simp [*]; done)), H', ⟨Nat.le_refl _⟩, ⟨by (with_reducible repeat (first | apply Kd.R_alloc | apply Kd.R_drewN | apply Kd.R_drew)); exact HO_3.out⟩, ⟨by repeat (first | (with_reducible first | exact HB.out | apply below_alloc | apply pw_below_drewN | apply below_drew1) | exact HB.out)⟩⟩
        case round =>
          clear H'
          try clear c2
          try clear c2b0
          try clear c2b1
          try clear p2
          obtain ⟨x5_2, x14_2, rfl, rfl, HA, HK2, HO_3, HB⟩ := hrel
          cases gk with
          | zero => exact absurd HA.out (by simp [token_Encode.l1])
          | succ k2 =>
            have H := HA.out
            clear HA
            simp only [token_Encode.l1] at H
            by_cases c4 : x14_2 < 3
            · rw [if_pos c4] at H
              have c4b0 : decide (x14_2 < 3) = true := decide_eq_true c4
              clear c4
              by_cases c5 : x14_2 < ji3
              · rw [if_pos c5] at H
                have c5b0 : decide (x14_2 < ji3) = true := decide_eq_true c5
                clear c5
                by_cases c6 : 0 ≤ x14_2
                · rw [if_pos c6] at H
                  have c6b0 : decide (0 ≤ x14_2) = true := decide_eq_true c6
                  clear c6
                  by_cases c7 : x14_2 < (x0_1.size : Int)
                  · rw [if_pos c7] at H
                    have c7b0 : decide (x14_2 < (x0_1.size : Int)) = true := decide_eq_true c7
                    clear c7
                    have H' := Aside0.mk H
                    clear H
                    have p8 : 0 ≤ (x14_2 : Int) := of_decide_eq_true (by first | (with_reducible assumption) | assumption)
                    have q8 : x14_2 < (x0_1.size : Int) := of_decide_eq_true (by first | (with_reducible assumption) | assumption)
                    have hx8 := bt_at x0_1 x14_2
                    replace p8 := eq_true p8
                    replace q8 := eq_true q8
                    go_wp2
                    go_roundg k2
                    case measure => have := HK1.out; have := HK2.out; omega
                    case rel => exact ⟨(Go.bits .or .i64 (wrap64 (x5_2 * 256)) (wrap64 (bt x0_1 x14_2))), (wrap64 (x14_2 + 1)), (by first | rfl | (simp; done) | (simp [*]; done)), (by first | rfl | (simp; done) | (simp [*]; done)), H', ⟨by have := HK1.out; have := HK2.out; omega⟩, ⟨by (with_reducible repeat (first | apply Kd.R_alloc | apply Kd.R_drewN | apply Kd.R_drew)); exact HO_3.out⟩, ⟨by repeat (first | (with_reducible first | exact HB.out | apply below_alloc | apply pw_below_drewN | apply below_drew1) | exact HB.out)⟩⟩
                  · rw [if_neg c7] at H
                    exact absurd H (by simp)
                · rw [if_neg c6] at H
                  exact absurd H (by simp)
              · rw [if_neg c5] at H
                have c5b0 : decide (x14_2 < ji3) = false := decide_eq_false c5
                clear c5
                have H' := Aside0.mk H
                clear H
                go_wp2
                go_roundg k2
                case measure => have := HK1.out; have := HK2.out; omega
                case rel => exact ⟨(wrap64 (x5_2 * 256)), (wrap64 (x14_2 + 1)), (by first | rfl | (simp; done) | (simp [*]; done)), (by first | rfl | (simp; done) | (simp [*]; done)), H', ⟨by have := HK1.out; have := HK2.out; omega⟩, ⟨by (with_reducible repeat (first | apply Kd.R_alloc | apply Kd.R_drewN | apply Kd.R_drew)); exact HO_3.out⟩, ⟨by repeat (first | (with_reducible first | exact HB.out | apply below_alloc | apply pw_below_drewN | apply below_drew1) | exact HB.out)⟩⟩
            · rw [if_neg c4] at H
              have c4b0 : decide (x14_2 < 3) = false := decide_eq_false c4
              clear c4
              have H' := Aside0.mk H
              clear H
              go_wp2
              go_loopg [3, 31] k2 (fun kq v3 v31 w' => ∃ (x3_3 : List Int) (x31_3 : Int), v31 = .int .i64 x31_3 ∧ Aside0 (token_Encode.l2 kq x0_1 x3_3 ji3 x5_2 (wrap64 (ji3 + 1)) x31_3 = some r) ∧ Aside0 (kq ≤ k2) ∧ Aside0 (Kd.R (Kd.int .u8) 5 w' w.heap.size (fun _ => True) v3 x3_3) ∧ Aside0 (Below w.heap.size w w'))
              case atStart => exact ⟨(x3_1), (0), (by first | rfl | (simp; done) | (simp [*]; done)), H', ⟨Nat.le_refl _⟩, ⟨by (with_reducible repeat (first | apply Kd.R_alloc | apply Kd.R_drewN | apply Kd.R_drew)); exact HO_3.out⟩, ⟨by repeat (first | (with_reducible first | exact HB.out | apply below_alloc | apply pw_below_drewN | apply below_drew1) | exact HB.out)⟩⟩
              case round =>
                clear H'
                try clear c2
                try clear c2b0
                try clear c2b1
                try clear p2
                try clear c4
                try clear c4b0
                try clear c5
                try clear c5b0
                try clear c6
                try clear c6b0
                try clear p6
                try clear c7
                try clear c7b0
                try clear p8
                try clear q8
                try clear hx8
                try clear p2
                try clear p8
                try clear q8
                obtain ⟨x3_3, x31_3, rfl, HA, HK3, HO_3, HB⟩ := hrel
                cases gk with
                | zero => exact absurd HA.out (by simp [token_Encode.l2])
                | succ k3 =>
                  have H := HA.out
                  clear HA
                  simp only [token_Encode.l2] at H
                  by_cases c9 : x31_3 < (wrap64 (ji3 + 1))
                  · rw [if_pos c9] at H
                    have c9b0 : decide (x31_3 < (wrap64 (ji3 + 1))) = true := decide_eq_true c9
                    (try have c9bu0 := (by have h_ := c9b0; simp (disch := omega) only [Go.Proofs.YthgjnpmebjlecaaGreatDoorXWords.wrap_in] at h_; exact h_))
                    clear c9
                    obtain ⟨ji10, hji10⟩ : ∃ j_ : Int, (wrap64 (18 - (wrap64 (6 * x31_3)))) = j_ := ⟨_, rfl⟩
                    replace H : (if 0 ≤ (ji10) then (if 0 ≤ (Go.bits .and .i64 (shr .i64 x5_2 (ji10)) 63) then (if (Go.bits .and .i64 (shr .i64 x5_2 (ji10)) 63) < 64 then (if x3_3.length < 140737488355328 then (token_Encode.l2 k3 x0_1 (x3_3 ++ [bt (⟨#[65, 66, 67, 68, 69, 70, 71, 72, 73, 74, 75, 76, 77, 78, 79, 80, 81, 82, 83, 84, 85, 86, 87, 88, 89, 90, 97, 98, 99, 100, 101, 102, 103, 104, 105, 106, 107, 108, 109, 110, 111, 112, 113, 114, 115, 116, 117, 118, 119, 120, 121, 122, 48, 49, 50, 51, 52, 53, 54, 55, 56, 57, 45, 95]⟩ : ByteArray) (Go.bits .and .i64 (shr .i64 x5_2 (ji10)) 63)]) ji3 x5_2 (wrap64 (ji3 + 1)) (wrap64 (x31_3 + 1))) else (none)) else (none)) else (none)) else (none)) = some r := by first | (rw [hji10] at H; exact H) | (simp only [hji10] at H ⊢; exact H)
                    have hji10w : (IntKind.i64.wrap (18 - (wrap64 (6 * x31_3)))) = ji10 := (i64_w _).trans hji10
                    by_cases c11 : 0 ≤ (ji10)
                    · rw [if_pos c11] at H
                      have c11b0 := eq_true c11
                      have c11b1 : decide (0 ≤ (ji10)) = true := decide_eq_true c11
                      clear c11
                      obtain ⟨ji12, hji12⟩ : ∃ j_ : Int, (shr .i64 x5_2 (ji10)) = j_ := ⟨_, rfl⟩
                      replace H : (if 0 ≤ (Go.bits .and .i64 (ji12) 63) then (if (Go.bits .and .i64 (ji12) 63) < 64 then (if x3_3.length < 140737488355328 then (token_Encode.l2 k3 x0_1 (x3_3 ++ [bt (⟨#[65, 66, 67, 68, 69, 70, 71, 72, 73, 74, 75, 76, 77, 78, 79, 80, 81, 82, 83, 84, 85, 86, 87, 88, 89, 90, 97, 98, 99, 100, 101, 102, 103, 104, 105, 106, 107, 108, 109, 110, 111, 112, 113, 114, 115, 116, 117, 118, 119, 120, 121, 122, 48, 49, 50, 51, 52, 53, 54, 55, 56, 57, 45, 95]⟩ : ByteArray) (Go.bits .and .i64 (ji12) 63)]) ji3 x5_2 (wrap64 (ji3 + 1)) (wrap64 (x31_3 + 1))) else (none)) else (none)) else (none)) = some r := by first | (rw [hji12] at H; exact H) | (simp only [hji12] at H ⊢; exact H)
                      have hji12_ : (x5_2 / 2 ^ min (ji10).toNat 64) = ji12 := hji12
                      have hji12z : (ji10) ≤ 64 → (x5_2 / 2 ^ (ji10).toNat) = ji12 := shr_small hji12
                      by_cases c13 : 0 ≤ (Go.bits .and .i64 (ji12) 63)
                      · rw [if_pos c13] at H
                        have c13b0 : decide (0 ≤ (Go.bits .and .i64 (ji12) 63)) = true := decide_eq_true c13
                        clear c13
                        by_cases c14 : (Go.bits .and .i64 (ji12) 63) < 64
                        · rw [if_pos c14] at H
                          have c14b0 : decide ((Go.bits .and .i64 (ji12) 63) < 64) = true := decide_eq_true c14
                          clear c14
                          by_cases c16 : x3_3.length < 140737488355328
                          · rw [if_pos c16] at H
                            have LMc16 := Aside0.mk c16
                            clear c16
                            obtain ⟨y241, hy241⟩ : ∃ y_ : List Int, y_ = (x3_3 ++ [bt (⟨#[65, 66, 67, 68, 69, 70, 71, 72, 73, 74, 75, 76, 77, 78, 79, 80, 81, 82, 83, 84, 85, 86, 87, 88, 89, 90, 97, 98, 99, 100, 101, 102, 103, 104, 105, 106, 107, 108, 109, 110, 111, 112, 113, 114, 115, 116, 117, 118, 119, 120, 121, 122, 48, 49, 50, 51, 52, 53, 54, 55, 56, 57, 45, 95]⟩ : ByteArray) (Go.bits .and .i64 (ji12) 63)]) := ⟨_, rfl⟩
                            replace H : (token_Encode.l2 k3 x0_1 y241 ji3 x5_2 (wrap64 (ji3 + 1)) (wrap64 (x31_3 + 1))) = some r := by first | (rw [hy241]; with_reducible exact H) | (have H2_ := (Option.bind_some _ _).symm.trans H; rw [hy241]; with_reducible exact H2_) | (have H2_ := (Option.bind_some _ _).symm.trans H; with_reducible exact H2_) | with_reducible exact H | (rw [hy241]; exact H) | exact H
                            have Ny241 := Aside0.mk hy241
                            clear hy241
                            have H' := Aside0.mk H
                            clear H
                            have p15 : 0 ≤ ((Go.bits .and .i64 (ji12) 63) : Int) := of_decide_eq_true (by first | (with_reducible assumption) | assumption)
                            have q15 : (Go.bits .and .i64 (ji12) 63) < (64 : Int) := of_decide_eq_true (by first | (with_reducible assumption) | assumption)
                            have hx15 := bt_at (⟨#[65, 66, 67, 68, 69, 70, 71, 72, 73, 74, 75, 76, 77, 78, 79, 80, 81, 82, 83, 84, 85, 86, 87, 88, 89, 90, 97, 98, 99, 100, 101, 102, 103, 104, 105, 106, 107, 108, 109, 110, 111, 112, 113, 114, 115, 116, 117, 118, 119, 120, 121, 122, 48, 49, 50, 51, 52, 53, 54, 55, 56, 57, 45, 95]⟩ : ByteArray) (Go.bits .and .i64 (ji12) 63)
                            replace p15 := eq_true p15
                            replace q15 := eq_true q15
                            go_wp2_with (first | ((with_reducible refine gate_builtin (b := .append) (xs := #[.tmp 34, .tmp 42]) rfl ?_); at_builtin; refine Kd.R_append (Kd.int .u8) (w0 := w) w.heap.size rfl (.tmp 34) (.tmp 42) 91 5 (.int .u8 0) 1 rfl Tryz.underlying91 info5 rfl (by decide) (by omega) u3 x3_3 (bt (⟨#[65, 66, 67, 68, 69, 70, 71, 72, 73, 74, 75, 76, 77, 78, 79, 80, 81, 82, 83, 84, 85, 86, 87, 88, 89, 90, 97, 98, 99, 100, 101, 102, 103, 104, 105, 106, 107, 108, 109, 110, 111, 112, 113, 114, 115, 116, 117, 118, 119, 120, 121, 122, 48, 49, 50, 51, 52, 53, 54, 55, 56, 57, 45, 95]⟩ : ByteArray) (Go.bits .and .i64 (ji12) 63)) [.int .u8 (bt (⟨#[65, 66, 67, 68, 69, 70, 71, 72, 73, 74, 75, 76, 77, 78, 79, 80, 81, 82, 83, 84, 85, 86, 87, 88, 89, 90, 97, 98, 99, 100, 101, 102, 103, 104, 105, 106, 107, 108, 109, 110, 111, 112, 113, 114, 115, 116, 117, 118, 119, 120, 121, 122, 48, 49, 50, 51, 52, 53, 54, 55, 56, 57, 45, 95]⟩ : ByteArray) (Go.bits .and .i64 (ji12) 63))] (fun _ => True) (fun _ => False) rfl rfl ?aP (fun _ hk => hk.elim) ?aF ?aO ?aB ?aS ?aL ?_; (case aP => exact rfl); (case aB => exact (by repeat (first | (with_reducible first | exact HB.out | apply below_alloc | apply pw_below_drewN | apply below_drew1) | exact HB.out))); (case aF => exact (fun _ _ => trivial)); (case aO => exact (by (with_reducible repeat (first | apply Kd.R_alloc | apply Kd.R_drewN | apply Kd.R_drew)); exact HO_3.out)); (case aS => exact (below_size (by repeat (first | (with_reducible first | exact HB.out | apply below_alloc | apply pw_below_drewN | apply below_drew1) | exact HB.out)))); (case aL => have := LMc16.out; omega); intro v242 w17 ho hb hg hat; rw [← Ny241.out] at ho; have n0_ := Aside0.mk (hb); have n1_ := Aside0.mk (ho); clear HB; clear HO_3; have HB := n0_; have HO243 := n1_; clear n0_ n1_; clear ho hb hg hat))
                            go_roundg k3
                            case measure => have := HK1.out; have := HK2.out; have := HK3.out; omega
                            case rel => exact ⟨(y241), (wrap64 (x31_3 + 1)), (by first | rfl | (simp; done) | (simp [*]; done)), H', ⟨by have := HK1.out; have := HK2.out; have := HK3.out; omega⟩, ⟨by (with_reducible repeat (first | apply Kd.R_alloc | apply Kd.R_drewN | apply Kd.R_drew)); exact HO243.out⟩, ⟨by repeat (first | (with_reducible first | exact HB.out | apply below_alloc | apply pw_below_drewN | apply below_drew1) | exact HB.out)⟩⟩
                          · rw [if_neg c16] at H
                            exact absurd H (by simp)
                        · rw [if_neg c14] at H
                          exact absurd H (by simp)
                      · rw [if_neg c13] at H
                        exact absurd H (by simp)
                    · rw [if_neg c11] at H
                      exact absurd H (by simp)
                  · rw [if_neg c9] at H
                    have c9b0 : decide (x31_3 < (wrap64 (ji3 + 1))) = false := decide_eq_false c9
                    (try have c9bu0 := (by have h_ := c9b0; simp (disch := omega) only [Go.Proofs.YthgjnpmebjlecaaGreatDoorXWords.wrap_in] at h_; exact h_))
                    clear c9
                    by_cases c18 : 0 ≤ ji3
                    · rw [if_pos c18] at H
                      have c18b0 := eq_true c18
                      have c18b1 : decide (0 ≤ ji3) = true := decide_eq_true c18
                      clear c18
                      by_cases c19 : ji3 ≤ (x0_1.size : Int)
                      · rw [if_pos c19] at H
                        have c19b0 := eq_true c19
                        have c19b1 : decide (ji3 ≤ (x0_1.size : Int)) = true := decide_eq_true c19
                        clear c19
                        have H' := Aside0.mk H
                        clear H
                        go_wp2
                        go_roundg k3
                        case measure => have := HK1.out; have := HK2.out; have := HK3.out; omega
                        case rel => exact ⟨(x0_1.extract (ji3 : Int).toNat x0_1.size), (x3_3), (by first | rfl | (simp; done) | (simp only [← hji3] <;> (first | rfl | simp)) | (simp [*]; done)), H', ⟨by have := HK1.out; have := HK2.out; have := HK3.out; omega⟩, ⟨by (with_reducible repeat (first | apply Kd.R_alloc | apply Kd.R_drewN | apply Kd.R_drew)); exact HO_3.out⟩, ⟨by repeat (first | (with_reducible first | exact HB.out | apply below_alloc | apply pw_below_drewN | apply below_drew1) | exact HB.out)⟩⟩
                      · rw [if_neg c19] at H
                        exact absurd H (by simp)
                    · rw [if_neg c18] at H
                      exact absurd H (by simp)
      · rw [if_neg c2] at H
        have c2b0 : decide (0 < (x0_1.size : Int)) = false := decide_eq_false c2
        have c2b1 : decide (0 < x0_1.size) = false := decide_eq_false (by omega)
        clear c2
        obtain rfl := Option.some.inj H
        have hcv20 := own_string (P := Tryz.prog) Tryz.underlying91 Tryz.underlying5 Tryz.underlying9 (Kd.own_of_R HO_3.out)
        go_wp2
        go_ret
        exact ⟨by first | rfl | (simp [errW_none, errW_some] <;> rfl) | (simp [*, errW_none, errW_some] <;> rfl), by repeat (first | (with_reducible first | exact HB.out | apply below_alloc | apply pw_below_drewN | apply below_drew1) | exact HB.out)⟩

end Go.Proofs.YthgjnpmebjlecaaGreatDoor.P
/- gatekeep2.ready hands back true; no conditions. -/
namespace Go.Proofs.YthgjnpmebjlecaaGreatDoor.Ext
open Go.RowKit Go.Proofs.YthgjnpmebjlecaaGreatDoorW.PrintWords Go.Proofs.YthgjnpmebjlecaaGreatDoorW.PrintLast Go.Proofs.YthgjnpmebjlecaaGreatDoorW.PrintMore Go.Proofs.YthgjnpmebjlecaaGreatDoor.P

def hdrs : List S49 := [⟨ccName, ageTwo⟩]
def inst : List S29 := [⟨⟨#[97]⟩, 1⟩]
set_option maxRecDepth 100000 in
theorem rf_path : message_NormalPath.f 60 ⟨#[47, 97, 47, 46, 46, 47, 98]⟩ = some (⟨#[47, 98]⟩, 0) := by decide +kernel
set_option maxRecDepth 100000 in
theorem rf_round : upstream_Round.f 60 inst 2 = some ([⟨#[97]⟩, ⟨#[97]⟩], 0) := by decide +kernel
set_option maxRecDepth 100000 in
theorem rf_check : message_CheckResponse.f 60 200 hdrs ⟨#[]⟩ = some 0 := by decide +kernel
set_option maxRecDepth 100000 in
theorem rf_val : message_Values.f 60 hdrs ccName = some [ageTwo] := by decide +kernel
set_option maxRecDepth 100000 in
theorem rf_parts : message_Parts.f 60 [ageTwo] = some [ageTwo] := by decide +kernel
set_option maxRecDepth 100000 in
theorem rf_cut : strings_Cut.f ageTwo ⟨#[61]⟩ = some (⟨#[109, 97, 120, 45, 97, 103, 101]⟩, ⟨#[50]⟩, true) := by decide +kernel
set_option maxRecDepth 100000 in
theorem rf_sec : cache_seconds.f 60 ⟨#[50]⟩ = some (2, true) := by decide +kernel
set_option maxRecDepth 100000 in
theorem rf_tok : message_IsToken.f 60 ⟨#[109, 97, 120, 45, 97, 103, 101]⟩ = some true := by decide +kernel
set_option maxRecDepth 100000 in
theorem rf_low : strings_ToLower.f ⟨#[109, 97, 120, 45, 97, 103, 101]⟩ = some ⟨#[109, 97, 120, 45, 97, 103, 101]⟩ := by decide +kernel
set_option maxRecDepth 100000 in
theorem rf_flag : slices_Index_string_string.f 60 flagNames ⟨#[109, 97, 120, 45, 97, 103, 101]⟩ = some (-1) := by decide +kernel
set_option maxRecDepth 100000 in
theorem rf_num : slices_Index_string_string.f 60 numberNames ⟨#[109, 97, 120, 45, 97, 103, 101]⟩ = some 0 := by decide +kernel
set_option maxRecDepth 100000 in
theorem rf_vary : message_Values.f 60 hdrs varyName = some [] := by decide +kernel
set_option maxRecDepth 100000 in
theorem rf_none : message_Parts.f 60 [] = some [] := by decide +kernel
set_option maxRecDepth 100000 in
theorem rf_star : slices_Contains_string_string.f 60 [] ⟨#[42]⟩ = some false := by decide +kernel
set_option maxRecDepth 100000 in
theorem rf_life : cache_lifetime.f false false false false false false 2 (-1) (-1) (-1) (-1) (-1) = some 2000 := by decide +kernel
set_option maxRecDepth 100000 in
theorem rf_key1 : kit_IsKey.f 60 appA = some true := by decide +kernel
set_option maxRecDepth 100000 in
theorem rf_key2 : kit_IsKey.f 60 prodP = some true := by decide +kernel
set_option maxRecDepth 100000 in
theorem rf_out : kit_Outside.f 6 1 6 = some false := by decide +kernel
set_option maxRecDepth 100000 in
theorem rf_itoa : strconv_Itoa.f 5 = some ⟨#[53]⟩ := by decide +kernel
set_option maxRecDepth 100000 in
theorem rf_words : portal_kindWords.f = some kindList := by decide +kernel
set_option maxRecDepth 100000 in
theorem rf_code : token_Encode.f 60 ⟨#[97, 98]⟩ = some ⟨#[89, 87, 73]⟩ := by decide +kernel

theorem row49 (w : World) (g : Nat) (x : S49) (h0 : w.cell? ⟨g, 0, none⟩ = some (.string x.f0)) (h1 : w.cell? ⟨g, 1, none⟩ = some (.string x.f1)) : Kd.C k49 w (some ⟨g, 0, none⟩) [x].length [x] := by
  refine ⟨rfl, by simp, fun _ => ⟨_, rfl, fun j p hj => ?_⟩⟩
  obtain rfl : j = 0 := by
    rcases j with _ | j
    · rfl
    · simp at hj
  obtain rfl : x = p := by simpa using hj
  refine ⟨[.string x.f0, .string x.f1], rfl, k49_mk w x, fun i u hi => ?_⟩
  rcases i with _ | _ | i
  · cases hi; exact h0
  · cases hi; exact h1
  · simp at hi
theorem row29 (w : World) (g : Nat) (x : S29) (h0 : w.cell? ⟨g, 0, none⟩ = some (.string x.f0)) (h1 : w.cell? ⟨g, 1, none⟩ = some (.int .i64 x.f1)) : Kd.C k29 w (some ⟨g, 0, none⟩) [x].length [x] := by
  refine ⟨rfl, by simp, fun _ => ⟨_, rfl, fun j p hj => ?_⟩⟩
  obtain rfl : j = 0 := by
    rcases j with _ | j
    · rfl
    · simp at hj
  obtain rfl : x = p := by simpa using hj
  refine ⟨[.string x.f0, .int .i64 x.f1], rfl, k29_mk w x, fun i u hi => ?_⟩
  rcases i with _ | _ | i
  · cases hi; exact h0
  · cases hi; exact h1
  · simp at hi
def ready.f : Option Bool := some true
set_option maxHeartbeats 4000000 in
set_option maxRecDepth 100000 in
theorem ready_true (w : World) : Calls Tryz.prog 9 #[] w fun e w' => e = .returned (.bool true) ∧ Below w.heap.size w w' := by
  go_enter Tryz.func9, Tryz.ntmps9
  go_wp2_with fail
  refine (message_NormalPath.calls 60 _ _ _ _ rf_path).mono ?_
  rintro e w1 ⟨rfl, b1⟩
  go_wp2_with fail
  refine (upstream_Round.calls 60 _ 1 inst 2 _ _ _ (row29 _ w1.heap.size _ (blk_cell (blk_new _ _) 0) (blk_cell (blk_new _ _) 1)) (by decide) rf_round).mono ?_
  rintro e w2 ⟨v2, rfl, r2, b2⟩
  have B2 := Lib.hid ((b1.alloc b1.size _).trans (b2.mono (b1.alloc b1.size _).size))
  obtain ⟨A2, c2, rfl, l2, q2⟩ := Kd.R_reads r2
  clear r2 l2 q2 b2 b1
  go_wp2_with fail
  refine (life_two 200 _ 1 hdrs ⟨#[]⟩ _ (row49 _ w2.heap.size _ (blk_cell (blk_new _ _) 0) (blk_cell (blk_new _ _) 1)) (by decide) 60 rf_check rf_val rf_parts rf_cut rf_sec rf_tok rf_low rf_flag rf_num rf_vary rf_none rf_star rf_life).mono ?_
  rintro e w3 ⟨rfl, b3⟩
  have B3 := Lib.hid ((B2.out.alloc B2.out.size _).trans (b3.mono (B2.out.alloc B2.out.size _).size))
  clear b3
  go_wp2_with fail
  refine (text_end w3.heap.size 1 _ (by decide) 60 (blk_cell (blk_new _ _) 0) (blk_cell (blk_new _ _) 1) (blk_cell (blk_new _ _) 2) (blk_cell (blk_new _ _) 3) (blk_cell (blk_new _ _) 4) rf_key1 rf_key2 rf_out rf_itoa rf_words).mono ?_
  rintro e w4 ⟨rfl, b4⟩
  have B4 := Lib.hid ((B3.out.alloc B3.out.size _).trans (b4.mono (B3.out.alloc B3.out.size _).size))
  clear b4
  go_wp2_with fail
  refine (token_Encode.calls 60 _ _ _ rf_code).mono ?_
  rintro e w5 ⟨rfl, b5⟩
  have B5 := Lib.hid (B4.out.trans (b5.mono B4.out.size))
  clear b5
  go_wp2_with fail
  go_ret
  exact ⟨rfl, B5.out⟩
theorem ready.calls (r : Bool) (w : World) (h : ready.f = some r) :
    Calls Tryz.prog 9 #[] w fun e w' => e = .returned (.bool r) ∧ Below w.heap.size w w' := by
  obtain rfl : true = r := by simpa [ready.f] using h
  exact ready_true w
end Go.Proofs.YthgjnpmebjlecaaGreatDoor.Ext
/- The machine's side, printed by a program of this session: each Go function named below comes to the Lean function of its name; conditions: those of each theorem. -/
namespace Go.Proofs.YthgjnpmebjlecaaGreatDoor.P
open Go.RowKit Go.Proofs.YthgjnpmebjlecaaGreatDoorW.PrintWords Go.Proofs.YthgjnpmebjlecaaGreatDoorW.PrintLast Go.Proofs.YthgjnpmebjlecaaGreatDoorW.PrintMore
attribute [local go_sem] max2_int min2_int max_two min_two max_three min_three max_four min_four   -- for this text's walks alone
set_option linter.unusedVariables false
set_option linter.unusedSimpArgs false

/-! ### gatekeep2_PercentilesRank: function 4 -/
mutual
def gatekeep2_PercentilesRank.l0 : Nat → List Int → Int → Int → List Int → Int → Option (Bool)
  | 0, _, _, _, _, _ => none
  | k + 1, x4, x16, x17, x312000, x312001 => if x17 < x16 then ((gatemake_Stream_Range.f x312000 x312001 (-5) 20).bind fun bt314 => (if x4.length < 17592186044416 then (gatekeep2_PercentilesRank.l0 k (x4 ++ [bt314.1]) x16 (wrap64 (x17 + 1)) x312000 bt314.2) else (none))) else ((gatemake_Stream_Range.f x312000 x312001 1 1000).bind fun bt319 => ((Ext.upstream_Percentile.f x4 bt319.1).bind fun bt321 => (gatekeep2_PercentilesRank.l1 k x4 bt319.1 bt321.1 bt321.2 0 0 x4 (x4.length : Int) 0)))
def gatekeep2_PercentilesRank.l1 : Nat → List Int → Int → Int → Int → Int → Int → List Int → Int → Int → Option (Bool)
  | 0, _, _, _, _, _, _, _, _, _ => none
  | k + 1, x4, x5, x6, x7, x8, x9, x33, x34, x35 => if x35 < x34 then (if 0 ≤ x35 then (if x35 < (x33.length : Int) then (if (rd x33 x35) ≤ x6 then (if (rd x33 x35) < x6 then (gatekeep2_PercentilesRank.l1 k x4 x5 x6 x7 (wrap64 (x8 + 1)) (wrap64 (x9 + 1)) x33 x34 (wrap64 (x35 + 1))) else (gatekeep2_PercentilesRank.l1 k x4 x5 x6 x7 (wrap64 (x8 + 1)) x9 x33 x34 (wrap64 (x35 + 1)))) else (if (rd x33 x35) < x6 then (gatekeep2_PercentilesRank.l1 k x4 x5 x6 x7 x8 (wrap64 (x9 + 1)) x33 x34 (wrap64 (x35 + 1))) else (gatekeep2_PercentilesRank.l1 k x4 x5 x6 x7 x8 x9 x33 x34 (wrap64 (x35 + 1))))) else (none)) else (none)) else (if x7 = 0 then ((slices_Contains_int_int.f k x4 x6).bind fun t323 => (if t323 = true then (if (wrap64 (x8 * 1000)) ≥ (wrap64 (x5 * (x4.length : Int))) then (if (wrap64 (x9 * 1000)) < (wrap64 (x5 * (x4.length : Int))) then ((Ext.ready.f).bind fun t324 => (some t324)) else (some false)) else (some false)) else (some false))) else (some false))
end
def gatekeep2_PercentilesRank.f (k : Nat) (l0 : List Int) : Option (Bool) := (gatemake_Stream_Range.f l0 0 1 9).bind fun bt312 => (gatekeep2_PercentilesRank.l0 k ([] : List Int) bt312.1 0 l0 bt312.2)
theorem gatekeep2_PercentilesRank.mono_l : ∀ k, (∀ y0 y1 y2 y3 y4, LeO (gatekeep2_PercentilesRank.l0 k y0 y1 y2 y3 y4) (gatekeep2_PercentilesRank.l0 (k + 1) y0 y1 y2 y3 y4)) ∧ (∀ y0 y1 y2 y3 y4 y5 y6 y7 y8, LeO (gatekeep2_PercentilesRank.l1 k y0 y1 y2 y3 y4 y5 y6 y7 y8) (gatekeep2_PercentilesRank.l1 (k + 1) y0 y1 y2 y3 y4 y5 y6 y7 y8))
  | 0 => ⟨fun _ _ _ _ _ r h => by simp [gatekeep2_PercentilesRank.l0] at h, fun _ _ _ _ _ _ _ _ _ r h => by simp [gatekeep2_PercentilesRank.l1] at h⟩
  | k + 1 => by
    obtain ⟨ih0, ih1⟩ := gatekeep2_PercentilesRank.mono_l k
    refine ⟨?_, ?_⟩
    · intro y0 y1 y2 y3 y4
      unfold gatekeep2_PercentilesRank.l0
      repeat' first
      | (with_reducible exact ih0 _ _ _ _ _)
      | (with_reducible exact ih1 _ _ _ _ _ _ _ _ _)
      | (with_reducible exact slices_Contains_int_int.mono _ _ _)
      | (with_reducible exact LeO.refl _)
      | (with_reducible exact LeO.none _)
      | (with_reducible refine LeO.ite ?_ ?_)
      | (with_reducible refine LeO.bind ?_ (fun _ => ?_))
      | exact ih0 _ _ _ _ _
      | exact ih1 _ _ _ _ _ _ _ _ _
      | exact slices_Contains_int_int.mono _ _ _
      | exact LeO.none _
      | refine LeO.ite ?_ ?_
      | refine LeO.bind ?_ (fun _ => ?_)
    · intro y0 y1 y2 y3 y4 y5 y6 y7 y8
      unfold gatekeep2_PercentilesRank.l1
      repeat' first
      | (with_reducible exact ih0 _ _ _ _ _)
      | (with_reducible exact ih1 _ _ _ _ _ _ _ _ _)
      | (with_reducible exact slices_Contains_int_int.mono _ _ _)
      | (with_reducible exact LeO.refl _)
      | (with_reducible exact LeO.none _)
      | (with_reducible refine LeO.ite ?_ ?_)
      | (with_reducible refine LeO.bind ?_ (fun _ => ?_))
      | exact ih0 _ _ _ _ _
      | exact ih1 _ _ _ _ _ _ _ _ _
      | exact slices_Contains_int_int.mono _ _ _
      | exact LeO.none _
      | refine LeO.ite ?_ ?_
      | refine LeO.bind ?_ (fun _ => ?_)
theorem gatekeep2_PercentilesRank.mono : ∀ a0 k, LeO (gatekeep2_PercentilesRank.f k a0) (gatekeep2_PercentilesRank.f (k + 1) a0) := by
  intro a0 k
  obtain ⟨ih0, ih1⟩ := gatekeep2_PercentilesRank.mono_l k
  unfold gatekeep2_PercentilesRank.f
  repeat' first
      | (with_reducible exact ih0 _ _ _ _ _)
      | (with_reducible exact ih1 _ _ _ _ _ _ _ _ _)
      | (with_reducible exact slices_Contains_int_int.mono _ _ _)
      | (with_reducible exact LeO.refl _)
      | (with_reducible exact LeO.none _)
      | (with_reducible refine LeO.ite ?_ ?_)
      | (with_reducible refine LeO.bind ?_ (fun _ => ?_))
      | exact ih0 _ _ _ _ _
      | exact ih1 _ _ _ _ _ _ _ _ _
      | exact slices_Contains_int_int.mono _ _ _
      | exact LeO.none _
      | refine LeO.ite ?_ ?_
      | refine LeO.bind ?_ (fun _ => ?_)
set_option maxHeartbeats 8000000 in
set_option maxRecDepth 100000 in
theorem gatekeep2_PercentilesRank.calls (k : Nat) (A0 : Option Addr) (c0 : Nat) (l0 : List Int) (r : Bool) (w : World) (hr0 : Kd.C (Kd.int .i64) w A0 l0.length l0) (hc0 : l0.length ≤ c0) (h : gatekeep2_PercentilesRank.f k l0 = some r) :
    Calls Tryz.prog 4 #[.slice A0 l0.length c0] w fun e w' => e = .returned (.bool r) ∧ Below w.heap.size w w' := by
  have hu25 := Tryz.underlying25
  have HR0 := Aside0.mk hr0
  have HC0 := Aside0.mk hc0
  clear hr0 hc0
  have HB := Aside0.mk (Below.refl w.heap.size w)
  have H : ((gatemake_Stream_Range.f l0 0 1 9).bind fun bt312 => (gatekeep2_PercentilesRank.l0 k ([] : List Int) bt312.1 0 l0 bt312.2)) = some r := h
  clear h
  replace H := Option.bind_eq_some_iff.mp H
  obtain ⟨⟨t312, t313⟩, A20, H⟩ := H
  replace H : (gatekeep2_PercentilesRank.l0 k ([] : List Int) t312 0 l0 t313) = some r := H
  have A2 := Aside0.mk A20
  clear A20
  have H' := Aside0.mk H
  clear H
  go_enter Tryz.func4, Tryz.ntmps4
  go_wp2_with (first | ((with_reducible refine gate_dst (N := 14) rfl ?_); (try (refine gate_guard (by rfl) ?_; dsimp only)); refine box_event ?hg (N := 14) ?hd (cs := #[.slice A0 l0.length c0, .int .i64 0]) (t := 25) ?hr ?_; (case hd => rfl); (case hg => rfl); (case hr => first | (go_simp; done) | (go_simp; rfl)); intro gb311 hg w3 hbox hb; have n0_ := Aside0.mk (below_step (by repeat (first | (with_reducible first | exact HB.out | apply below_alloc | apply pw_below_drewN | apply below_drew1) | exact HB.out)) hb); have n1_ := Aside0.mk ((⟨A0, c0, hbox, (by rw [hg]; exact (below_size (by repeat (first | (with_reducible first | exact HB.out | apply below_alloc | apply pw_below_drewN | apply below_drew1) | exact HB.out)))), HR0.out⟩ : IsS25 w w3 gb311 l0 0)); clear HB; have HB := n0_; have HI311 := n1_; clear n0_ n1_; clear hb hbox hg) | ((with_reducible refine gate_callee (f := 10) rfl ?_); refine goesL_ (some 16) rfl rfl Tryz.func10 (by kernel_rfl) rfl #[.pointer (some ⟨gb311, 0, none⟩), .int .i64 1, .int .i64 9] rfl (by (try simp only [List.map_toArray, List.map_cons, List.map_nil]); first | done | rfl | (simp only [List.length_drop, List.length_take]; rfl)) ?_; (with_reducible refine (gatemake_Stream_Range.calls gb311 l0 0 1 9 t312 t313 w _ ?side1 ?side2 A2.out).mono ?_); (case side1 => repeat (first | (with_reducible first | exact HI311.out | apply IsS25.alloc | apply IsS25.drewN | apply IsS25.drew | apply IsS25.set_1) | exact HI311.out)); (case side2 => repeat (first | (with_reducible first | exact HB.out | apply below_alloc | apply pw_below_drewN | apply below_drew1 | refine below_set ?_ (IsS25.ge HI311.out)) | exact HB.out)); rintro e w4 ⟨rfl, hi, hb, hk⟩; refine ⟨_, rfl, ?_⟩; have n0_ := Aside0.mk (hb); have n1_ := Aside0.mk (hi); clear HB; clear HI311; have HB := n0_; have HI311 := n1_; clear n0_ n1_; (try clear hb); (try clear hb2); (try clear hk); (try clear hi)))
  go_loopg [4, 17] k (fun kq v4 v17 w' => ∃ (x4_1 : List Int) (x17_1 : Int) (x312001_1 : Int), v17 = .int .i64 x17_1 ∧ Aside0 (gatekeep2_PercentilesRank.l0 kq x4_1 t312 x17_1 l0 x312001_1 = some r) ∧ Aside0 (kq ≤ k) ∧ Aside0 (Kd.R (Kd.int .i64) 3 w' w.heap.size (fun _ => True) v4 x4_1) ∧ Aside0 (IsS25 w w' gb311 l0 x312001_1) ∧ Aside0 (Below w.heap.size w w'))
  case atStart => exact ⟨(([] : List Int)), (0), (t313), (by first | rfl | (simp; done) | (simp [*]; done)), H', ⟨Nat.le_refl _⟩, ⟨by first | exact Kd.R_nil _ _ _ _ _ | exact Kd.N_nil _ _ _ _ _ | exact Kd.V_nil _ _ _ _ _ | exact Kd.Q_nil _ _ _ _ _ | exact Kd.S_nil _ _ _ _ _⟩, ⟨by repeat (first | (with_reducible first | exact HI311.out | apply IsS25.alloc | apply IsS25.drewN | apply IsS25.drew | apply IsS25.set_1) | exact HI311.out)⟩, ⟨by repeat (first | (with_reducible first | exact HB.out | apply below_alloc | apply pw_below_drewN | apply below_drew1 | refine below_set ?_ (IsS25.ge HI311.out)) | exact HB.out)⟩⟩
  case round =>
    clear H'
    try clear c1
    try clear p2
    try clear c4
    obtain ⟨x4_1, x17_1, x312001_1, rfl, HA, HK1, HO_4, HI311, HB⟩ := hrel
    cases gk with
    | zero => exact absurd HA.out (by simp [gatekeep2_PercentilesRank.l0])
    | succ k1 =>
      have H := HA.out
      clear HA
      simp only [gatekeep2_PercentilesRank.l0] at H
      by_cases c5 : x17_1 < t312
      · rw [if_pos c5] at H
        have c5b0 : decide (x17_1 < t312) = true := decide_eq_true c5
        clear c5
        replace H := Option.bind_eq_some_iff.mp H
        obtain ⟨⟨t314, t315⟩, A60, H⟩ := H
        replace H : (if x4_1.length < 17592186044416 then (gatekeep2_PercentilesRank.l0 k1 (x4_1 ++ [t314]) t312 (wrap64 (x17_1 + 1)) l0 t315) else (none)) = some r := H
        have A6 := Aside0.mk A60
        clear A60
        by_cases c7 : x4_1.length < 17592186044416
        · rw [if_pos c7] at H
          have LMc7 := Aside0.mk c7
          clear c7
          obtain ⟨y316, hy316⟩ : ∃ y_ : List Int, y_ = (x4_1 ++ [t314]) := ⟨_, rfl⟩
          replace H : (gatekeep2_PercentilesRank.l0 k1 y316 t312 (wrap64 (x17_1 + 1)) l0 t315) = some r := by first | (rw [hy316]; with_reducible exact H) | (have H2_ := (Option.bind_some _ _).symm.trans H; rw [hy316]; with_reducible exact H2_) | (have H2_ := (Option.bind_some _ _).symm.trans H; with_reducible exact H2_) | with_reducible exact H | (rw [hy316]; exact H) | exact H
          have Ny316 := Aside0.mk hy316
          clear hy316
          have H' := Aside0.mk H
          clear H
          go_wp2_with (first | ((with_reducible refine gate_callee (f := 10) rfl ?_); refine goesL_ (some 21) rfl rfl Tryz.func10 (by kernel_rfl) rfl #[.pointer (some ⟨gb311, 0, none⟩), .int .i64 (-5), .int .i64 20] rfl (by (try simp only [List.map_toArray, List.map_cons, List.map_nil]); first | done | rfl | (simp only [List.length_drop, List.length_take]; rfl)) ?_; (with_reducible refine (gatemake_Stream_Range.calls gb311 l0 x312001_1 (-5) 20 t314 t315 w _ ?side1 ?side2 A6.out).mono ?_); (case side1 => repeat (first | (with_reducible first | exact HI311.out | apply IsS25.alloc | apply IsS25.drewN | apply IsS25.drew | apply IsS25.set_1) | exact HI311.out)); (case side2 => repeat (first | (with_reducible first | exact HB.out | apply below_alloc | apply pw_below_drewN | apply below_drew1 | refine below_set ?_ (IsS25.ge HI311.out)) | exact HB.out)); rintro e w8 ⟨rfl, hi, hb, hk⟩; refine ⟨_, rfl, ?_⟩; have n0_ := Aside0.mk (Kd.R_mono (Kd.R_keep (IsS25.apart (show IsS25 w _ gb311 l0 x312001_1 from by repeat (first | (with_reducible first | exact HI311.out | apply IsS25.alloc | apply IsS25.drewN | apply IsS25.drew | apply IsS25.set_1) | exact HI311.out)) (by (with_reducible repeat (first | apply Kd.R_alloc | apply Kd.R_drewN | apply Kd.R_drew)); exact HO_4.out) (by decide)) hk (fun _ h => h.2)) (fun _ h => h.1)); have n1_ := Aside0.mk (hb); have n2_ := Aside0.mk (hi); clear HO_4; clear HB; clear HI311; have HO_4 := n0_; have HB := n1_; have HI311 := n2_; clear n0_ n1_ n2_; (try clear hb); (try clear hb2); (try clear hk); (try clear hi)) | ((with_reducible refine gate_builtin (b := .append) (xs := #[.tmp 19, .tmp 22]) rfl ?_); (try (refine gate_guard (by rfl) ?_; dsimp only)); at_builtin; refine Kd.R_append (Kd.int .i64) (w0 := w) w.heap.size rfl (.tmp 19) (.tmp 22) 22 3 (.int .i64 0) 8 rfl Tryz.underlying22 info3 rfl (by decide) (by omega) u4 x4_1 t314 [.int .i64 t314] (fun _ => True) (fun _ => False) rfl rfl ?aP (fun _ hk => hk.elim) ?aF ?aO ?aB ?aS ?aL ?_; (case aP => exact rfl); (case aB => exact (by repeat (first | (with_reducible first | exact HB.out | apply below_alloc | apply pw_below_drewN | apply below_drew1 | refine below_set ?_ (IsS25.ge HI311.out)) | exact HB.out))); (case aF => exact (fun _ _ => trivial)); (case aO => exact (by (with_reducible repeat (first | apply Kd.R_alloc | apply Kd.R_drewN | apply Kd.R_drew)); exact HO_4.out)); (case aS => exact (below_size (by repeat (first | (with_reducible first | exact HB.out | apply below_alloc | apply pw_below_drewN | apply below_drew1 | refine below_set ?_ (IsS25.ge HI311.out)) | exact HB.out)))); (case aL => have := LMc7.out; omega); intro v317 w9 ho hb hg hat; rw [← Ny316.out] at ho; have n0_ := Aside0.mk (IsS25.grown (by repeat (first | (with_reducible first | exact HI311.out | apply IsS25.alloc | apply IsS25.drewN | apply IsS25.drew | apply IsS25.set_1) | exact HI311.out)) hg (IsS25.own_ne HI311.out HO_4.out (by decide))); have n1_ := Aside0.mk (hb); have n2_ := Aside0.mk (ho); clear HI311; clear HB; clear HO_4; have HI311 := n0_; have HB := n1_; have HO318 := n2_; clear n0_ n1_ n2_; clear ho hb hg hat))
          go_roundg k1
          case measure => have := HK1.out; omega
          case rel => exact ⟨(y316), (wrap64 (x17_1 + 1)), (t315), (by first | rfl | (simp; done) | (simp [*]; done)), H', ⟨by have := HK1.out; omega⟩, ⟨by (with_reducible repeat (first | apply Kd.R_alloc | apply Kd.R_drewN | apply Kd.R_drew)); exact HO318.out⟩, ⟨by repeat (first | (with_reducible first | exact HI311.out | apply IsS25.alloc | apply IsS25.drewN | apply IsS25.drew | apply IsS25.set_1) | exact HI311.out)⟩, ⟨by repeat (first | (with_reducible first | exact HB.out | apply below_alloc | apply pw_below_drewN | apply below_drew1 | refine below_set ?_ (IsS25.ge HI311.out)) | exact HB.out)⟩⟩
        · rw [if_neg c7] at H
          exact absurd H (by simp)
      · rw [if_neg c5] at H
        have c5b0 : decide (x17_1 < t312) = false := decide_eq_false c5
        clear c5
        replace H := Option.bind_eq_some_iff.mp H
        obtain ⟨⟨t319, t320⟩, A100, H⟩ := H
        replace H : ((Ext.upstream_Percentile.f x4_1 t319).bind fun bt321 => (gatekeep2_PercentilesRank.l1 k1 x4_1 t319 bt321.1 bt321.2 0 0 x4_1 (x4_1.length : Int) 0)) = some r := H
        have A10 := Aside0.mk A100
        clear A100
        replace H := Option.bind_eq_some_iff.mp H
        obtain ⟨⟨t321, t322⟩, A110, H⟩ := H
        replace H : (gatekeep2_PercentilesRank.l1 k1 x4_1 t319 t321 t322 0 0 x4_1 (x4_1.length : Int) 0) = some r := H
        have A11 := Aside0.mk A110
        clear A110
        have H' := Aside0.mk H
        clear H
        go_wp2_with (first | ((with_reducible refine gate_callee (f := 10) rfl ?_); refine goesL_ (some 26) rfl rfl Tryz.func10 (by kernel_rfl) rfl #[.pointer (some ⟨gb311, 0, none⟩), .int .i64 1, .int .i64 1000] rfl (by (try simp only [List.map_toArray, List.map_cons, List.map_nil]); first | done | rfl | (simp only [List.length_drop, List.length_take]; rfl)) ?_; (with_reducible refine (gatemake_Stream_Range.calls gb311 l0 x312001_1 1 1000 t319 t320 w _ ?side1 ?side2 A10.out).mono ?_); (case side1 => repeat (first | (with_reducible first | exact HI311.out | apply IsS25.alloc | apply IsS25.drewN | apply IsS25.drew | apply IsS25.set_1) | exact HI311.out)); (case side2 => repeat (first | (with_reducible first | exact HB.out | apply below_alloc | apply pw_below_drewN | apply below_drew1 | refine below_set ?_ (IsS25.ge HI311.out)) | exact HB.out)); rintro e w12 ⟨rfl, hi, hb, hk⟩; refine ⟨_, rfl, ?_⟩; have n0_ := Aside0.mk (Kd.R_mono (Kd.R_keep (IsS25.apart (show IsS25 w _ gb311 l0 x312001_1 from by repeat (first | (with_reducible first | exact HI311.out | apply IsS25.alloc | apply IsS25.drewN | apply IsS25.drew | apply IsS25.set_1) | exact HI311.out)) (by (with_reducible repeat (first | apply Kd.R_alloc | apply Kd.R_drewN | apply Kd.R_drew)); exact HO_4.out) (by decide)) hk (fun _ h => h.2)) (fun _ h => h.1)); have n1_ := Aside0.mk (hb); have n2_ := Aside0.mk (hi); clear HO_4; clear HB; clear HI311; have HO_4 := n0_; have HB := n1_; have HI311 := n2_; clear n0_ n1_ n2_; (try clear hb); (try clear hb2); (try clear hk); (try clear hi); obtain ⟨Ao13, co13, eo13⟩ := Kd.R_slice HO_4.out; subst eo13) | ((with_reducible refine gate_callee (f := 11) rfl ?_); refine goesL_ (some 30) rfl rfl Tryz.func11 (by kernel_rfl) rfl #[.slice Ao13 x4_1.length co13, .int .i64 t319] rfl (by (try simp only [List.map_toArray, List.map_cons, List.map_nil]); first | done | rfl | (simp only [List.length_drop, List.length_take]; rfl)) ?_; (with_reducible refine (Ext.upstream_Percentile.calls _ _ x4_1 t319 t321 t322 _ ?side1 ?side2 A11.out).mono ?_); (case side1 => repeat (first | exact (Kd.R_reads' HO_4.out).2.2 | (with_reducible refine Kd.C_alloc ?_ _) | (with_reducible refine Kd.C_drewN ?_ _) | (with_reducible refine Kd.C_drew ?_))); (case side2 => exact (Kd.R_reads' HO_4.out).2.1); rintro e w14 ⟨rfl, hb⟩; refine ⟨_, rfl, ?_⟩; have n0_ := Aside0.mk (Kd.R_below (by (with_reducible repeat (first | apply Kd.R_alloc | apply Kd.R_drewN | apply Kd.R_drew)); exact HO_4.out) hb); have n1_ := Aside0.mk (IsS25.below (by repeat (first | (with_reducible first | exact HI311.out | apply IsS25.alloc | apply IsS25.drewN | apply IsS25.drew | apply IsS25.set_1) | exact HI311.out)) hb); have n2_ := Aside0.mk (below_step (by repeat (first | (with_reducible first | exact HB.out | apply below_alloc | apply pw_below_drewN | apply below_drew1 | refine below_set ?_ (IsS25.ge HI311.out)) | exact HB.out)) hb); clear HO_4; clear HI311; clear HB; have HO_4 := n0_; have HI311 := n1_; have HB := n2_; clear n0_ n1_ n2_; (try clear hb); (try clear hb2); (try clear hk); (try clear hi)))
        go_loopg [8, 9, 35] k1 (fun kq v8 v9 v35 w' => ∃ (x8_2 : Int) (x9_2 : Int) (x35_2 : Int), v8 = .int .i64 x8_2 ∧ v9 = .int .i64 x9_2 ∧ v35 = .int .i64 x35_2 ∧ Aside0 (gatekeep2_PercentilesRank.l1 kq x4_1 t319 t321 t322 x8_2 x9_2 x4_1 (x4_1.length : Int) x35_2 = some r) ∧ Aside0 (kq ≤ k1) ∧ Aside0 (Kd.R (Kd.int .i64) 3 w' w.heap.size (fun _ => True) (.slice Ao13 x4_1.length co13) x4_1) ∧ Aside0 (Kd.R (Kd.int .i64) 3 w' w.heap.size (fun _ => True) (.slice Ao13 x4_1.length co13) x4_1) ∧ Aside0 (Below w.heap.size w w'))
        case atStart => exact ⟨(0), (0), (0), (by first | rfl | (simp; done) | (simp [*]; done)), (by first | rfl | (simp; done) | (simp [*]; done)), (by first | rfl | (simp; done) | (simp [*]; done)), H', ⟨Nat.le_refl _⟩, ⟨by (with_reducible repeat (first | apply Kd.R_alloc | apply Kd.R_drewN | apply Kd.R_drew)); exact HO_4.out⟩, ⟨by (with_reducible repeat (first | apply Kd.R_alloc | apply Kd.R_drewN | apply Kd.R_drew)); exact HO_4.out⟩, ⟨by repeat (first | (with_reducible first | exact HB.out | apply below_alloc | apply pw_below_drewN | apply below_drew1 | refine below_set ?_ (IsS25.ge HI311.out)) | exact HB.out)⟩⟩
        case round =>
          clear H'
          try clear c1
          try clear p2
          try clear c4
          try clear c5
          try clear c5b0
          try clear p6
          try clear c7
          try clear c10
          try clear c11
          try clear p2
          obtain ⟨x8_2, x9_2, x35_2, rfl, rfl, rfl, HA, HK2, HO_4, HO_33, HB⟩ := hrel
          cases gk with
          | zero => exact absurd HA.out (by simp [gatekeep2_PercentilesRank.l1])
          | succ k2 =>
            have H := HA.out
            clear HA
            simp only [gatekeep2_PercentilesRank.l1] at H
            by_cases c15 : x35_2 < (x4_1.length : Int)
            · rw [if_pos c15] at H
              have c15b0 : decide (x35_2 < (x4_1.length : Int)) = true := decide_eq_true c15
              clear c15
              by_cases c16 : 0 ≤ x35_2
              · rw [if_pos c16] at H
                have c16b0 : decide (0 ≤ x35_2) = true := decide_eq_true c16
                clear c16
                by_cases c17 : x35_2 < (x4_1.length : Int)
                · rw [if_pos c17] at H
                  have c17b0 : decide (x35_2 < (x4_1.length : Int)) = true := decide_eq_true c17
                  clear c17
                  by_cases c18 : (rd x4_1 x35_2) ≤ t321
                  · rw [if_pos c18] at H
                    have c18b0 : decide ((rd x4_1 x35_2) ≤ t321) = true := decide_eq_true c18
                    clear c18
                    by_cases c19 : (rd x4_1 x35_2) < t321
                    · rw [if_pos c19] at H
                      have c19b0 : decide ((rd x4_1 x35_2) < t321) = true := decide_eq_true c19
                      clear c19
                      have H' := Aside0.mk H
                      clear H
                      have p325 : 0 ≤ (x35_2 : Int) := of_decide_eq_true (by first | (with_reducible assumption) | assumption)
                      have q325 : x35_2 < (x4_1.length : Int) := of_decide_eq_true (by first | (with_reducible assumption) | assumption)
                      obtain ⟨ad325, e325, hx325_0⟩ := Kd.at_int (Kd.R_reads' HO_33.out).2.2 x35_2 p325 q325
                      cases e325
                      replace p325 := eq_true p325
                      replace q325 := eq_true q325
                      go_wp2
                      go_roundg k2
                      case measure => have := HK1.out; have := HK2.out; omega
                      case rel => exact ⟨(wrap64 (x8_2 + 1)), (wrap64 (x9_2 + 1)), (wrap64 (x35_2 + 1)), (by first | rfl | (simp; done) | (simp [*]; done)), (by first | rfl | (simp; done) | (simp [*]; done)), (by first | rfl | (simp; done) | (simp [*]; done)), H', ⟨by have := HK1.out; have := HK2.out; omega⟩, ⟨by (with_reducible repeat (first | apply Kd.R_alloc | apply Kd.R_drewN | apply Kd.R_drew)); exact HO_4.out⟩, ⟨by (with_reducible repeat (first | apply Kd.R_alloc | apply Kd.R_drewN | apply Kd.R_drew)); exact HO_33.out⟩, ⟨by repeat (first | (with_reducible first | exact HB.out | apply below_alloc | apply pw_below_drewN | apply below_drew1) | exact HB.out)⟩⟩
                    · rw [if_neg c19] at H
                      have c19b0 : decide ((rd x4_1 x35_2) < t321) = false := decide_eq_false c19
                      clear c19
                      have H' := Aside0.mk H
                      clear H
                      have p325 : 0 ≤ (x35_2 : Int) := of_decide_eq_true (by first | (with_reducible assumption) | assumption)
                      have q325 : x35_2 < (x4_1.length : Int) := of_decide_eq_true (by first | (with_reducible assumption) | assumption)
                      obtain ⟨ad325, e325, hx325_0⟩ := Kd.at_int (Kd.R_reads' HO_33.out).2.2 x35_2 p325 q325
                      cases e325
                      replace p325 := eq_true p325
                      replace q325 := eq_true q325
                      go_wp2
                      go_roundg k2
                      case measure => have := HK1.out; have := HK2.out; omega
                      case rel => exact ⟨(wrap64 (x8_2 + 1)), (x9_2), (wrap64 (x35_2 + 1)), (by first | rfl | (simp; done) | (simp [*]; done)), (by first | rfl | (simp; done) | (simp [*]; done)), (by first | rfl | (simp; done) | (simp [*]; done)), H', ⟨by have := HK1.out; have := HK2.out; omega⟩, ⟨by (with_reducible repeat (first | apply Kd.R_alloc | apply Kd.R_drewN | apply Kd.R_drew)); exact HO_4.out⟩, ⟨by (with_reducible repeat (first | apply Kd.R_alloc | apply Kd.R_drewN | apply Kd.R_drew)); exact HO_33.out⟩, ⟨by repeat (first | (with_reducible first | exact HB.out | apply below_alloc | apply pw_below_drewN | apply below_drew1) | exact HB.out)⟩⟩
                  · rw [if_neg c18] at H
                    have c18b0 : decide ((rd x4_1 x35_2) ≤ t321) = false := decide_eq_false c18
                    clear c18
                    by_cases c20 : (rd x4_1 x35_2) < t321
                    · rw [if_pos c20] at H
                      have c20b0 : decide ((rd x4_1 x35_2) < t321) = true := decide_eq_true c20
                      clear c20
                      have H' := Aside0.mk H
                      clear H
                      have p325 : 0 ≤ (x35_2 : Int) := of_decide_eq_true (by first | (with_reducible assumption) | assumption)
                      have q325 : x35_2 < (x4_1.length : Int) := of_decide_eq_true (by first | (with_reducible assumption) | assumption)
                      obtain ⟨ad325, e325, hx325_0⟩ := Kd.at_int (Kd.R_reads' HO_33.out).2.2 x35_2 p325 q325
                      cases e325
                      replace p325 := eq_true p325
                      replace q325 := eq_true q325
                      go_wp2
                      go_roundg k2
                      case measure => have := HK1.out; have := HK2.out; omega
                      case rel => exact ⟨(x8_2), (wrap64 (x9_2 + 1)), (wrap64 (x35_2 + 1)), (by first | rfl | (simp; done) | (simp [*]; done)), (by first | rfl | (simp; done) | (simp [*]; done)), (by first | rfl | (simp; done) | (simp [*]; done)), H', ⟨by have := HK1.out; have := HK2.out; omega⟩, ⟨by (with_reducible repeat (first | apply Kd.R_alloc | apply Kd.R_drewN | apply Kd.R_drew)); exact HO_4.out⟩, ⟨by (with_reducible repeat (first | apply Kd.R_alloc | apply Kd.R_drewN | apply Kd.R_drew)); exact HO_33.out⟩, ⟨by repeat (first | (with_reducible first | exact HB.out | apply below_alloc | apply pw_below_drewN | apply below_drew1) | exact HB.out)⟩⟩
                    · rw [if_neg c20] at H
                      have c20b0 : decide ((rd x4_1 x35_2) < t321) = false := decide_eq_false c20
                      clear c20
                      have H' := Aside0.mk H
                      clear H
                      have p325 : 0 ≤ (x35_2 : Int) := of_decide_eq_true (by first | (with_reducible assumption) | assumption)
                      have q325 : x35_2 < (x4_1.length : Int) := of_decide_eq_true (by first | (with_reducible assumption) | assumption)
                      obtain ⟨ad325, e325, hx325_0⟩ := Kd.at_int (Kd.R_reads' HO_33.out).2.2 x35_2 p325 q325
                      cases e325
                      replace p325 := eq_true p325
                      replace q325 := eq_true q325
                      go_wp2
                      go_roundg k2
                      case measure => have := HK1.out; have := HK2.out; omega
                      case rel => exact ⟨(x8_2), (x9_2), (wrap64 (x35_2 + 1)), (by first | rfl | (simp; done) | (simp [*]; done)), (by first | rfl | (simp; done) | (simp [*]; done)), (by first | rfl | (simp; done) | (simp [*]; done)), H', ⟨by have := HK1.out; have := HK2.out; omega⟩, ⟨by (with_reducible repeat (first | apply Kd.R_alloc | apply Kd.R_drewN | apply Kd.R_drew)); exact HO_4.out⟩, ⟨by (with_reducible repeat (first | apply Kd.R_alloc | apply Kd.R_drewN | apply Kd.R_drew)); exact HO_33.out⟩, ⟨by repeat (first | (with_reducible first | exact HB.out | apply below_alloc | apply pw_below_drewN | apply below_drew1) | exact HB.out)⟩⟩
                · rw [if_neg c17] at H
                  exact absurd H (by simp)
              · rw [if_neg c16] at H
                exact absurd H (by simp)
            · rw [if_neg c15] at H
              have c15b0 : decide (x35_2 < (x4_1.length : Int)) = false := decide_eq_false c15
              clear c15
              by_cases c21 : t322 = 0
              · rw [if_pos c21] at H
                have c21b0 : (t322 == 0) = true := beq_iff_eq.mpr c21
                have c21b1 : (t322 != 0) = false := bne_eq_false_iff_eq.mpr c21
                clear c21
                replace H := Option.bind_eq_some_iff.mp H
                obtain ⟨t323, A220, H⟩ := H
                replace H : (if t323 = true then (if (wrap64 (x8_2 * 1000)) ≥ (wrap64 (t319 * (x4_1.length : Int))) then (if (wrap64 (x9_2 * 1000)) < (wrap64 (t319 * (x4_1.length : Int))) then ((Ext.ready.f).bind fun t324 => (some t324)) else (some false)) else (some false)) else (some false)) = some r := H
                have A22 := Aside0.mk A220
                clear A220
                by_cases c23 : t323 = true
                · subst c23
                  have H1 : (if (wrap64 (x8_2 * 1000)) ≥ (wrap64 (t319 * (x4_1.length : Int))) then (if (wrap64 (x9_2 * 1000)) < (wrap64 (t319 * (x4_1.length : Int))) then ((Ext.ready.f).bind fun t324 => (some t324)) else (some false)) else (some false)) = some r := by rw [if_pos rfl] at H; exact H
                  clear H
                  have H := H1
                  clear H1
                  by_cases c24 : (wrap64 (x8_2 * 1000)) ≥ (wrap64 (t319 * (x4_1.length : Int)))
                  · rw [if_pos c24] at H
                    have c24b0 : decide ((wrap64 (t319 * (x4_1.length : Int))) ≤ (wrap64 (x8_2 * 1000))) = true := decide_eq_true c24
                    (try have c24bu0 := (by have h_ := c24b0; simp (disch := omega) only [Go.Proofs.YthgjnpmebjlecaaGreatDoorXWords.wrap_in] at h_; exact h_))
                    clear c24
                    by_cases c25 : (wrap64 (x9_2 * 1000)) < (wrap64 (t319 * (x4_1.length : Int)))
                    · rw [if_pos c25] at H
                      have c25b0 : decide ((wrap64 (x9_2 * 1000)) < (wrap64 (t319 * (x4_1.length : Int)))) = true := decide_eq_true c25
                      (try have c25bu0 := (by have h_ := c25b0; simp (disch := omega) only [Go.Proofs.YthgjnpmebjlecaaGreatDoorXWords.wrap_in] at h_; exact h_))
                      clear c25
                      replace H := Option.bind_eq_some_iff.mp H
                      obtain ⟨t324, A260, H⟩ := H
                      replace H : (some t324) = some r := H
                      have A26 := Aside0.mk A260
                      clear A260
                      obtain rfl := Option.some.inj H
                      go_wp2_with (first | (go_at_call 12; (with_reducible refine (slices_Contains_int_int.calls k2 _ _ x4_1 t321 true _ ?side1 ?side2 A22.out).mono ?_); (case side1 => repeat (first | exact (Kd.R_reads' HO_4.out).2.2 | (with_reducible refine Kd.C_alloc ?_ _) | (with_reducible refine Kd.C_drewN ?_ _) | (with_reducible refine Kd.C_drew ?_))); (case side2 => exact (Kd.R_reads' HO_4.out).2.1); rintro e w' ⟨rfl, ⟨nd, rfl⟩⟩) | (go_at_call 9; (with_reducible refine (Ext.ready.calls  t324 _ A26.out).mono ?_); rintro e w27 ⟨rfl, hb⟩; have n0_ := Aside0.mk (Kd.R_below (by (with_reducible repeat (first | apply Kd.R_alloc | apply Kd.R_drewN | apply Kd.R_drew)); exact HO_4.out) hb); have n1_ := Aside0.mk (Kd.R_below (by (with_reducible repeat (first | apply Kd.R_alloc | apply Kd.R_drewN | apply Kd.R_drew)); exact HO_33.out) hb); have n2_ := Aside0.mk (below_step (by repeat (first | (with_reducible first | exact HB.out | apply below_alloc | apply pw_below_drewN | apply below_drew1) | exact HB.out)) hb); clear HO_4; clear HO_33; clear HB; have HO_4 := n0_; have HO_33 := n1_; have HB := n2_; clear n0_ n1_ n2_; (try clear hb); (try clear hb2); (try clear hk); (try clear hi)))
                      go_ret
                      exact ⟨by first | rfl | (simp [errW_none, errW_some] <;> rfl) | (simp [*, errW_none, errW_some] <;> rfl), by repeat (first | (with_reducible first | exact HB.out | apply below_alloc | apply pw_below_drewN | apply below_drew1) | exact HB.out)⟩
                    · rw [if_neg c25] at H
                      have c25b0 : decide ((wrap64 (x9_2 * 1000)) < (wrap64 (t319 * (x4_1.length : Int)))) = false := decide_eq_false c25
                      (try have c25bu0 := (by have h_ := c25b0; simp (disch := omega) only [Go.Proofs.YthgjnpmebjlecaaGreatDoorXWords.wrap_in] at h_; exact h_))
                      clear c25
                      obtain rfl := Option.some.inj H
                      go_wp2_with (first | (go_at_call 12; (with_reducible refine (slices_Contains_int_int.calls k2 _ _ x4_1 t321 true _ ?side1 ?side2 A22.out).mono ?_); (case side1 => repeat (first | exact (Kd.R_reads' HO_4.out).2.2 | (with_reducible refine Kd.C_alloc ?_ _) | (with_reducible refine Kd.C_drewN ?_ _) | (with_reducible refine Kd.C_drew ?_))); (case side2 => exact (Kd.R_reads' HO_4.out).2.1); rintro e w' ⟨rfl, ⟨nd, rfl⟩⟩))
                      go_ret
                      exact ⟨by first | rfl | (simp [errW_none, errW_some] <;> rfl) | (simp [*, errW_none, errW_some] <;> rfl), by repeat (first | (with_reducible first | exact HB.out | apply below_alloc | apply pw_below_drewN | apply below_drew1) | exact HB.out)⟩
                  · rw [if_neg c24] at H
                    have c24b0 : decide ((wrap64 (t319 * (x4_1.length : Int))) ≤ (wrap64 (x8_2 * 1000))) = false := decide_eq_false c24
                    (try have c24bu0 := (by have h_ := c24b0; simp (disch := omega) only [Go.Proofs.YthgjnpmebjlecaaGreatDoorXWords.wrap_in] at h_; exact h_))
                    clear c24
                    obtain rfl := Option.some.inj H
                    go_wp2_with (first | (go_at_call 12; (with_reducible refine (slices_Contains_int_int.calls k2 _ _ x4_1 t321 true _ ?side1 ?side2 A22.out).mono ?_); (case side1 => repeat (first | exact (Kd.R_reads' HO_4.out).2.2 | (with_reducible refine Kd.C_alloc ?_ _) | (with_reducible refine Kd.C_drewN ?_ _) | (with_reducible refine Kd.C_drew ?_))); (case side2 => exact (Kd.R_reads' HO_4.out).2.1); rintro e w' ⟨rfl, ⟨nd, rfl⟩⟩))
                    go_ret
                    exact ⟨by first | rfl | (simp [errW_none, errW_some] <;> rfl) | (simp [*, errW_none, errW_some] <;> rfl), by repeat (first | (with_reducible first | exact HB.out | apply below_alloc | apply pw_below_drewN | apply below_drew1) | exact HB.out)⟩
                · replace c23 := Bool.eq_false_iff.mpr c23
                  subst c23
                  have H1 : (some false) = some r := by rw [if_neg (show ¬ (false = true) by decide)] at H; exact H
                  clear H
                  have H := H1
                  clear H1
                  obtain rfl := Option.some.inj H
                  go_wp2_with (first | (go_at_call 12; (with_reducible refine (slices_Contains_int_int.calls k2 _ _ x4_1 t321 false _ ?side1 ?side2 A22.out).mono ?_); (case side1 => repeat (first | exact (Kd.R_reads' HO_4.out).2.2 | (with_reducible refine Kd.C_alloc ?_ _) | (with_reducible refine Kd.C_drewN ?_ _) | (with_reducible refine Kd.C_drew ?_))); (case side2 => exact (Kd.R_reads' HO_4.out).2.1); rintro e w' ⟨rfl, ⟨nd, rfl⟩⟩))
                  go_ret
                  exact ⟨by first | rfl | (simp [errW_none, errW_some] <;> rfl) | (simp [*, errW_none, errW_some] <;> rfl), by repeat (first | (with_reducible first | exact HB.out | apply below_alloc | apply pw_below_drewN | apply below_drew1) | exact HB.out)⟩
              · rw [if_neg c21] at H
                have c21b0 : (t322 == 0) = false := beq_eq_false_iff_ne.mpr c21
                have c21b1 : (t322 != 0) = true := bne_iff_ne.mpr c21
                obtain rfl := Option.some.inj H
                go_wp2
                go_ret
                exact ⟨by first | rfl | (simp [errW_none, errW_some] <;> rfl) | (simp [*, errW_none, errW_some] <;> rfl), by repeat (first | (with_reducible first | exact HB.out | apply below_alloc | apply pw_below_drewN | apply below_drew1) | exact HB.out)⟩

/-- THE ONE PURE STATEMENT of gatekeep2_PercentilesRank: yours. -/
def gatekeep2_PercentilesRank.Pure : Prop := ∀ (l0 : List Int), l0.length ≤ maxLen → l0.length * 8 ≤ 140737488351232 → (∀ x ∈ l0, (Lit.int .i64 x).wf = true) → ∃ k, gatekeep2_PercentilesRank.f k l0 = some true
theorem gatekeep2_PercentilesRank.walk (P : gatekeep2_PercentilesRank.Pure) (a0 : Option Addr) (len0 cap0 : Nat) (z0 : List Int) (w : World) (w0 : (a0 = none ∧ len0 = 0 ∧ cap0 = 0 ∧ z0 = []) ∨ ∃ x, a0 = some x ∧ len0 ≤ cap0 ∧ cap0 ≤ maxLen ∧ z0.length = cap0 ∧ (∀ i, i < z0.length → w.cell? (x.add i) = some (.int .i64 (z0.getD i 0))) ∧ ∀ n ∈ z0, (Lit.int .i64 n).wf = true) (y0 : len0 * 8 ≤ 140737488351232) :
    Calls Tryz.prog 4 #[.slice a0 len0 cap0] w fun e w' => e = .returned (.bool true) ∧ Below w.heap.size w w' := by
  obtain ⟨l0, rfl, hr0, hm0, hw0, hc0⟩ := ReadsInt.ofRowC w0
  obtain ⟨k, h⟩ := P l0 hm0 y0 hw0
  refine (gatekeep2_PercentilesRank.calls k _ _ l0 true w (Kd.C_of_reads (d := (0 : Int)) (h1 := fun _ => rfl) hr0) hc0 h).mono ?_
  rintro e w' ⟨rfl, hd⟩
  exact ⟨rfl, hd⟩

end Go.Proofs.YthgjnpmebjlecaaGreatDoor.P
/- The machine's side, printed by a program of this session: each Go function named below comes to the Lean function of its name; conditions: those of each theorem. -/
namespace Go.Proofs.YthgjnpmebjlecaaGreatDoor.P
open Go.RowKit Go.Proofs.YthgjnpmebjlecaaGreatDoorW.PrintWords Go.Proofs.YthgjnpmebjlecaaGreatDoorW.PrintLast Go.Proofs.YthgjnpmebjlecaaGreatDoorW.PrintMore
attribute [local go_sem] max2_int min2_int max_two min_two max_three min_three max_four min_four   -- for this text's walks alone
set_option linter.unusedVariables false
set_option linter.unusedSimpArgs false

/-! ### gatemake_Stream_Pick: function 16 -/
def gatemake_Stream_Pick.f (s0_0 : List Int) (s0_1 : Int) (l1 : List Int) : Option (Int × Int) := (gatemake_Stream_Next.f s0_0 s0_1 (l1.length : Int)).bind fun bt107 => (if 0 ≤ bt107.1 then (if bt107.1 < (l1.length : Int) then (some (rd l1 bt107.1, bt107.2)) else (none)) else (none))
set_option maxHeartbeats 8000000 in
set_option maxRecDepth 100000 in
theorem gatemake_Stream_Pick.calls (g : Nat) (s0_0 : List Int) (s0_1 : Int) (A1 : Option Addr) (c1 : Nat) (l1 : List Int) (r1 : Int) (r2 : Int) (w0 w : World) (hI : IsS25 w0 w g s0_0 s0_1) (hB : Below w0.heap.size w0 w) (hr1 : Kd.C (Kd.int .i64) w A1 l1.length l1) (hc1 : l1.length ≤ c1) (hf1 : ∀ ad, A1 = some ad → 0 < l1.length → ad.block ≠ g) (h : gatemake_Stream_Pick.f s0_0 s0_1 l1 = some (r1, r2)) :
    Calls Tryz.prog 16 #[.pointer (some ⟨g, 0, none⟩), .slice A1 l1.length c1] w fun e w' => e = .returned (.int .i64 r1) ∧ IsS25 w0 w' g s0_0 r2 ∧ Below w0.heap.size w0 w' ∧ KeepBut w w' g none := by
  have HR1 := Aside0.mk hr1
  have HC1 := Aside0.mk hc1
  clear hr1 hc1
  have HI0 := Aside0.mk hI
  have HK := Aside0.mk (KeepBut.refl w g none)
  have HL := Aside0.mk hB.size
  clear hI
  have HW0 := Aside0.mk hB.size
  have HB := Aside0.mk hB
  clear hB
  have H : ((gatemake_Stream_Next.f s0_0 s0_1 (l1.length : Int)).bind fun bt107 => (if 0 ≤ bt107.1 then (if bt107.1 < (l1.length : Int) then (some (rd l1 bt107.1, bt107.2)) else (none)) else (none))) = some (r1, r2) := h
  clear h
  replace H := Option.bind_eq_some_iff.mp H
  obtain ⟨⟨t107, t108⟩, A30, H⟩ := H
  replace H : (if 0 ≤ t107 then (if t107 < (l1.length : Int) then (some (rd l1 t107, t108)) else (none)) else (none)) = some (r1, r2) := H
  have A3 := Aside0.mk A30
  clear A30
  by_cases c4 : 0 ≤ t107
  · rw [if_pos c4] at H
    have c4b0 : decide (0 ≤ t107) = true := decide_eq_true c4
    clear c4
    by_cases c5 : t107 < (l1.length : Int)
    · rw [if_pos c5] at H
      have c5b0 : decide (t107 < (l1.length : Int)) = true := decide_eq_true c5
      clear c5
      simp only [Option.some.injEq, Prod.mk.injEq] at H
      obtain ⟨rfl, rfl⟩ := H
      go_enter Tryz.func16, Tryz.ntmps16
      go_wp2_with (first | ((with_reducible refine gate_callee (f := 24) rfl ?_); refine goesL_ (some 9) rfl rfl Tryz.func24 (by kernel_rfl) rfl #[.pointer (some ⟨g, 0, none⟩), .int .i64 (l1.length : Int)] rfl (by (try simp only [List.map_toArray, List.map_cons, List.map_nil]); first | done | rfl | (simp only [List.length_drop, List.length_take]; rfl)) ?_; (with_reducible refine (gatemake_Stream_Next.calls g s0_0 s0_1 (l1.length : Int) t107 t108 w0 _ ?side1 ?side2 A3.out).mono ?_); (case side1 => repeat (first | (with_reducible first | exact HI0.out | apply IsS25.alloc | apply IsS25.drewN | apply IsS25.drew | apply IsS25.set_1) | exact HI0.out)); (case side2 => repeat (first | (with_reducible first | exact HB.out | apply below_alloc | apply pw_below_drewN | apply below_drew1 | refine below_set ?_ (IsS25.ge HI0.out)) | exact HB.out)); rintro e w6 ⟨rfl, hi, hb, hk⟩; refine ⟨_, rfl, ?_⟩; have n0_ := Aside0.mk (KeepBut.trans (by repeat (first | (with_reducible first | exact HK.out | apply KeepBut.set_ | apply keep_drewN | apply keep_drew | apply keep_alloc) | exact HK.out)) hk (.inl rfl)); have n1_ := Aside0.mk (hb); have n2_ := Aside0.mk (hi); clear HK; clear HB; clear HI0; have HK := n0_; have HB := n1_; have HI0 := n2_; clear n0_ n1_ n2_; (try clear hb); (try clear hb2); (try clear hk); (try clear hi); have p109 : 0 ≤ (t107 : Int) := of_decide_eq_true (by first | (with_reducible assumption) | assumption); have q109 : t107 < (l1.length : Int) := of_decide_eq_true (by first | (with_reducible assumption) | assumption); obtain ⟨ad109, e109, hx109_0⟩ := Kd.at_int HR1.out t107 p109 q109; cases e109; replace hx109_0 := keep_cell HK.out hx109_0 (by first | (rw [add_block]; exact hf1 _ rfl (by omega)) | exact hf1 _ rfl (by omega) | exact hf1 ad109 rfl (by omega)); replace p109 := eq_true p109; replace q109 := eq_true q109))
      go_ret
      exact ⟨by first | rfl | (simp [errW_none, errW_some] <;> rfl) | (simp [*, errW_none, errW_some] <;> rfl), by repeat (first | (with_reducible first | exact HI0.out | apply IsS25.alloc | apply IsS25.drewN | apply IsS25.drew | apply IsS25.set_1) | exact HI0.out), by repeat (first | (with_reducible first | exact HB.out | apply below_alloc | apply pw_below_drewN | apply below_drew1 | refine below_set ?_ (IsS25.ge HI0.out)) | exact HB.out), by repeat (first | (with_reducible first | exact HK.out | apply KeepBut.set_ | apply keep_drewN | apply keep_drew | apply keep_alloc) | exact HK.out)⟩
    · rw [if_neg c5] at H
      exact absurd H (by simp)
  · rw [if_neg c4] at H
    exact absurd H (by simp)

end Go.Proofs.YthgjnpmebjlecaaGreatDoor.P
/- The machine's side, printed by a program of this session: each Go function named below comes to the Lean function of its name; conditions: those of each theorem. -/
namespace Go.Proofs.YthgjnpmebjlecaaGreatDoor.P
open Go.RowKit Go.Proofs.YthgjnpmebjlecaaGreatDoorW.PrintWords Go.Proofs.YthgjnpmebjlecaaGreatDoorW.PrintLast Go.Proofs.YthgjnpmebjlecaaGreatDoorW.PrintMore
attribute [local go_sem] max2_int min2_int max_two min_two max_three min_three max_four min_four   -- for this text's walks alone
set_option linter.unusedVariables false
set_option linter.unusedSimpArgs false

/-! ### gatemake_Stream_Flip: function 13 -/
def gatemake_Stream_Flip.f (s0_0 : List Int) (s0_1 : Int) (a1 : Int) : Option (Bool × Int) := (gatemake_Stream_Next.f s0_0 s0_1 a1).bind fun bt105 => (some ((bt105.1 == 0), bt105.2))
set_option maxHeartbeats 8000000 in
set_option maxRecDepth 100000 in
theorem gatemake_Stream_Flip.calls (g : Nat) (s0_0 : List Int) (s0_1 : Int) (a1 : Int) (r1 : Bool) (r2 : Int) (w0 w : World) (hI : IsS25 w0 w g s0_0 s0_1) (hB : Below w0.heap.size w0 w) (h : gatemake_Stream_Flip.f s0_0 s0_1 a1 = some (r1, r2)) :
    Calls Tryz.prog 13 #[.pointer (some ⟨g, 0, none⟩), .int .i64 a1] w fun e w' => e = .returned (.bool r1) ∧ IsS25 w0 w' g s0_0 r2 ∧ Below w0.heap.size w0 w' ∧ KeepBut w w' g none := by
  have HI0 := Aside0.mk hI
  have HK := Aside0.mk (KeepBut.refl w g none)
  have HL := Aside0.mk hB.size
  clear hI
  have HW0 := Aside0.mk hB.size
  have HB := Aside0.mk hB
  clear hB
  have H : ((gatemake_Stream_Next.f s0_0 s0_1 a1).bind fun bt105 => (some ((bt105.1 == 0), bt105.2))) = some (r1, r2) := h
  clear h
  replace H := Option.bind_eq_some_iff.mp H
  obtain ⟨⟨t105, t106⟩, A30, H⟩ := H
  replace H : (some ((t105 == 0), t106)) = some (r1, r2) := H
  have A3 := Aside0.mk A30
  clear A30
  simp only [Option.some.injEq, Prod.mk.injEq] at H
  obtain ⟨rfl, rfl⟩ := H
  go_enter Tryz.func13, Tryz.ntmps13
  go_wp2_with (first | ((with_reducible refine gate_callee (f := 24) rfl ?_); refine goesL_ (some 7) rfl rfl Tryz.func24 (by kernel_rfl) rfl #[.pointer (some ⟨g, 0, none⟩), .int .i64 a1] rfl (by (try simp only [List.map_toArray, List.map_cons, List.map_nil]); first | done | rfl | (simp only [List.length_drop, List.length_take]; rfl)) ?_; (with_reducible refine (gatemake_Stream_Next.calls g s0_0 s0_1 a1 t105 t106 w0 _ ?side1 ?side2 A3.out).mono ?_); (case side1 => repeat (first | (with_reducible first | exact HI0.out | apply IsS25.alloc | apply IsS25.drewN | apply IsS25.drew | apply IsS25.set_1) | exact HI0.out)); (case side2 => repeat (first | (with_reducible first | exact HB.out | apply below_alloc | apply pw_below_drewN | apply below_drew1 | refine below_set ?_ (IsS25.ge HI0.out)) | exact HB.out)); rintro e w4 ⟨rfl, hi, hb, hk⟩; refine ⟨_, rfl, ?_⟩; have n0_ := Aside0.mk (KeepBut.trans (by repeat (first | (with_reducible first | exact HK.out | apply KeepBut.set_ | apply keep_drewN | apply keep_drew | apply keep_alloc) | exact HK.out)) hk (.inl rfl)); have n1_ := Aside0.mk (hb); have n2_ := Aside0.mk (hi); clear HK; clear HB; clear HI0; have HK := n0_; have HB := n1_; have HI0 := n2_; clear n0_ n1_ n2_; (try clear hb); (try clear hb2); (try clear hk); (try clear hi)))
  go_ret
  exact ⟨by first | rfl | (simp [errW_none, errW_some] <;> rfl) | (simp [*, errW_none, errW_some] <;> rfl), by repeat (first | (with_reducible first | exact HI0.out | apply IsS25.alloc | apply IsS25.drewN | apply IsS25.drew | apply IsS25.set_1) | exact HI0.out), by repeat (first | (with_reducible first | exact HB.out | apply below_alloc | apply pw_below_drewN | apply below_drew1 | refine below_set ?_ (IsS25.ge HI0.out)) | exact HB.out), by repeat (first | (with_reducible first | exact HK.out | apply KeepBut.set_ | apply keep_drewN | apply keep_drew | apply keep_alloc) | exact HK.out)⟩

end Go.Proofs.YthgjnpmebjlecaaGreatDoor.P
/- The stream hands out, at every place of it, a number of the range that was asked for; condition: fewer than 2^40 numbers have been handed out, and the list fits into memory. -/
namespace Go.Proofs.YthgjnpmebjlecaaGreatDoor.Stream
open Go.RowKit Go.Proofs.YthgjnpmebjlecaaGreatDoorW.PrintWords Go.Proofs.YthgjnpmebjlecaaGreatDoorW.PrintLast Go.Proofs.YthgjnpmebjlecaaGreatDoorW.PrintMore Go.Proofs.YthgjnpmebjlecaaGreatDoor.P

theorem wrap_in {x : Int} (h0 : -9223372036854775808 ≤ x) (h1 : x ≤ 9223372036854775807) : wrap64 x = x := by unfold wrap64; omega

theorem below_ok (x n : Int) (h1 : 1 ≤ n) (h2 : n ≤ 4611686018427387904) : ∃ v, 0 ≤ v ∧ v < n ∧ gatemake_Below.f x n = some v := by
  unfold gatemake_Below.f
  rw [if_neg (by omega), if_neg (by omega)]
  have ha : Int.tmod x n < n := Int.tmod_lt_of_pos x (by omega)
  have hb : -n < Int.tmod x n := by
    have := Int.tmod_lt_of_pos (-x) (show 0 < n by omega)
    rw [Int.neg_tmod] at this; omega
  by_cases h : Int.tmod x n < 0
  · rw [if_pos h, wrap_in (by omega) (by omega)]; exact ⟨_, by omega, by omega, rfl⟩
  · rw [if_neg h]; exact ⟨_, by omega, ha, rfl⟩

theorem next_ok (l : List Int) (at_ n : Int) (hl : l.length ≤ 140737488351232) (h0 : 0 ≤ at_) (h1 : at_ < 1099511627776) (hn : 1 ≤ n) (hn2 : n ≤ 4611686018427387904) :
    ∃ v, 0 ≤ v ∧ v < n ∧ gatemake_Stream_Next.f l at_ n = some (v, at_ + 1) := by
  unfold gatemake_Stream_Next.f
  have e1 : wrap64 (at_ + 1) = at_ + 1 := wrap_in (by omega) (by omega)
  rw [e1]
  by_cases hz : (l.length : Int) = 0
  · rw [if_pos hz]
    obtain ⟨v, a, b, e⟩ := below_ok (wrap64 ((at_ + 1) * 7919)) n hn hn2
    rw [e]; exact ⟨v, a, b, rfl⟩
  · rw [if_neg hz]
    have e2 : wrap64 (at_ + 1 - 1) = at_ := by rw [wrap_in (by omega) (by omega)]; omega
    rw [e2]
    have hp : 0 ≤ Int.tmod at_ l.length := Int.tmod_nonneg _ h0
    have hq : Int.tmod at_ l.length < l.length := Int.tmod_lt_of_pos _ (by omega)
    rw [if_pos hp, if_pos hq]
    obtain ⟨v, a, b, e⟩ := below_ok (rd l (Int.tmod at_ l.length)) 1073741824 (by omega) (by omega)
    rw [e]; simp only [Option.bind_some]
    obtain ⟨v', a', b', e'⟩ := below_ok (wrap64 (v + wrap64 (wrap64 (Int.tdiv at_ l.length) * wrap64 (7919 + Int.tmod at_ l.length)))) n hn hn2
    rw [e']; exact ⟨v', a', b', rfl⟩

theorem flip_ok (l : List Int) (at_ n : Int) (hl : l.length ≤ 140737488351232) (h0 : 0 ≤ at_) (h1 : at_ < 1099511627776) (hn : 1 ≤ n) (hn2 : n ≤ 4611686018427387904) :
    ∃ b, gatemake_Stream_Flip.f l at_ n = some (b, at_ + 1) := by
  obtain ⟨v, _, _, e⟩ := next_ok l at_ n hl h0 h1 hn hn2
  unfold gatemake_Stream_Flip.f; rw [e]; exact ⟨_, rfl⟩

theorem pick_ok (l : List Int) (at_ : Int) (c : List Int) (hl : l.length ≤ 140737488351232) (h0 : 0 ≤ at_) (h1 : at_ < 1099511627776) (hc : 1 ≤ c.length) (hc2 : c.length ≤ 1000000) :
    ∃ x, x ∈ c ∧ gatemake_Stream_Pick.f l at_ c = some (x, at_ + 1) := by
  obtain ⟨v, a, b, e⟩ := next_ok l at_ c.length hl h0 h1 (by omega) (by omega)
  unfold gatemake_Stream_Pick.f; rw [e]; simp only [Option.bind_some]
  rw [if_pos a, if_pos b]
  refine ⟨rd c v, ?_, rfl⟩
  unfold rd
  have h : v.toNat < c.length := by omega
  rw [List.getD_eq_getElem?_getD, List.getElem?_eq_getElem h]
  exact List.getElem_mem h
end Go.Proofs.YthgjnpmebjlecaaGreatDoor.Stream
/- The pure statement of 'gatekeep2.PercentilesRank': a number at a place of the sorted list has at least so many numbers not above it and fewer below; condition: the list of numbers fits into memory. -/
namespace Go.Proofs.YthgjnpmebjlecaaGreatDoor.Pure
open Go.RowKit Go.Proofs.YthgjnpmebjlecaaGreatDoorW.PrintWords Go.Proofs.YthgjnpmebjlecaaGreatDoorW.PrintLast Go.Proofs.YthgjnpmebjlecaaGreatDoorW.PrintMore Go.Proofs.YthgjnpmebjlecaaGreatDoor.P Go.Proofs.YthgjnpmebjlecaaGreatDoor.Stream

theorem sorted_le {s : List Int} (hs : s.Pairwise (fun a b => decide (a ≤ b) = true)) {i j : Nat} (hij : i ≤ j) (hj : j < s.length) : s.getD i 0 ≤ s.getD j 0 := by
  rcases Nat.lt_or_ge i j with h | h
  · have := List.pairwise_iff_getElem.1 hs i j (by omega) hj h
    simpa [List.getD_eq_getElem?_getD, List.getElem?_eq_getElem hj, List.getElem?_eq_getElem (show i < s.length by omega)] using this
  · obtain rfl : i = j := by omega
    exact Int.le_refl _
theorem le_many {s : List Int} (hs : s.Pairwise (fun a b => decide (a ≤ b) = true)) {i : Nat} (hi : i < s.length) : i + 1 ≤ s.countP (fun k => decide (k ≤ s.getD i 0)) := by
  have e : s.countP (fun k => decide (k ≤ s.getD i 0)) = (s.take (i + 1)).countP (fun k => decide (k ≤ s.getD i 0)) + (s.drop (i + 1)).countP (fun k => decide (k ≤ s.getD i 0)) := by
    rw [← List.countP_append, List.take_append_drop]
  have h1 : (s.take (i + 1)).countP (fun k => decide (k ≤ s.getD i 0)) = (s.take (i + 1)).length := by
    rw [List.countP_eq_length]
    intro a ha
    obtain ⟨j, hj, rfl⟩ := List.mem_iff_getElem.1 ha
    have hj' : j < i + 1 := by simp at hj; omega
    have := sorted_le hs (show j ≤ i by omega) hi
    have hjs : j < s.length := by omega
    rw [List.getElem_take]
    rw [List.getD_eq_getElem?_getD, List.getElem?_eq_getElem hjs] at this
    simpa using this
  rw [e, h1, List.length_take]; omega
theorem lt_few {s : List Int} (hs : s.Pairwise (fun a b => decide (a ≤ b) = true)) {i : Nat} (hi : i < s.length) : s.countP (fun k => decide (k < s.getD i 0)) ≤ i := by
  have e : s.countP (fun k => decide (k < s.getD i 0)) = (s.take i).countP (fun k => decide (k < s.getD i 0)) + (s.drop i).countP (fun k => decide (k < s.getD i 0)) := by
    rw [← List.countP_append, List.take_append_drop]
  have h1 : (s.drop i).countP (fun k => decide (k < s.getD i 0)) = 0 := by
    rw [List.countP_eq_zero]
    intro a ha
    obtain ⟨j, hj, rfl⟩ := List.mem_iff_getElem.1 ha
    have hjs : i + j < s.length := by simp at hj; omega
    have := sorted_le hs (show i ≤ i + j by omega) hjs
    rw [List.getElem_drop]
    rw [List.getD_eq_getElem?_getD (i := i + j), List.getElem?_eq_getElem hjs] at this
    simpa using this
  have h2 : (s.take i).countP (fun k => decide (k < s.getD i 0)) ≤ (s.take i).length := List.countP_le_length
  rw [e, h1]; simp at h2 ⊢; omega
def srt (l : List Int) : List Int := l.mergeSort fun x y => decide (x ≤ y)
theorem srt_sorted (l : List Int) : (srt l).Pairwise (fun a b => decide (a ≤ b) = true) :=
  List.pairwise_mergeSort (fun a b c h1 h2 => by simp at *; omega) (fun a b => by simp; omega) l
theorem srt_perm (l : List Int) : (srt l).Perm l := List.mergeSort_perm l _
theorem rank_ok (l : List Int) (i : Nat) (hi : i < l.length) : i + 1 ≤ l.countP (fun k => decide (k ≤ (srt l).getD i 0)) ∧ l.countP (fun k => decide (k < (srt l).getD i 0)) ≤ i ∧ (srt l).getD i 0 ∈ l := by
  have hl : (srt l).length = l.length := (srt_perm l).length_eq
  refine ⟨?_, ?_, ?_⟩
  · rw [← (srt_perm l).countP_eq]; exact le_many (srt_sorted l) (by omega)
  · rw [← (srt_perm l).countP_eq]; exact lt_few (srt_sorted l) (by omega)
  · rw [← (srt_perm l).mem_iff, List.getD_eq_getElem?_getD, List.getElem?_eq_getElem (by omega)]
    exact List.getElem_mem _

theorem range_ok (l : List Int) (at_ a b : Int) (hl : l.length ≤ 140737488351232) (h0 : 0 ≤ at_) (h1 : at_ < 1000) (hab : a ≤ b) (ha : -1000000 ≤ a) (hb : b ≤ 1000000) :
    ∃ v, a ≤ v ∧ v ≤ b ∧ gatemake_Stream_Range.f l at_ a b = some (v, at_ + 1) := by
  unfold gatemake_Stream_Range.f
  rw [if_neg (by omega)]
  have e1 : wrap64 (b - a) = b - a := Stream.wrap_in (by omega) (by omega)
  have e2 : wrap64 (b - a + 1) = b - a + 1 := Stream.wrap_in (by omega) (by omega)
  rw [e1, e2]
  obtain ⟨v, g0, g1, e⟩ := next_ok l at_ (b - a + 1) hl h0 (by omega) (by omega) (by omega)
  rw [e]
  refine ⟨a + v, by omega, by omega, ?_⟩
  simp only [Option.bind_some]
  rw [Stream.wrap_in (by omega) (by omega)]

theorem index_in (x : List Int) (v : Int) (hx : x.length ≤ 1000) : ∀ (m j k : Nat), j + m = x.length → (∃ i, j ≤ i ∧ i < x.length ∧ x.getD i 0 = v) → ∃ r : Int, 0 ≤ r ∧ slices_Index_int_int.l0 (k + m) x v (x.length : Int) (j : Int) = some r := by
  intro m
  induction m with
  | zero => intro j k hj ⟨i, h1, h2, _⟩; omega
  | succ m ih =>
    intro j k hj ⟨i, h1, h2, h3⟩
    rw [show k + (m + 1) = (k + m) + 1 by omega]
    simp only [slices_Index_int_int.l0]
    rw [if_pos (by omega), if_pos (by omega), if_pos (by omega)]
    have hr : rd x (j : Int) = x.getD j 0 := by unfold rd; rw [Int.toNat_natCast]
    rw [hr]
    by_cases h : v = x.getD j 0
    · rw [if_pos h]; exact ⟨j, by omega, rfl⟩
    · rw [if_neg h, Stream.wrap_in (by omega) (by omega), show ((j : Int) + 1) = ((j + 1 : Nat) : Int) by omega]
      have : i ≠ j := fun e => h (by rw [← h3, e])
      exact ih (j + 1) k (by omega) ⟨i, by omega, h2, h3⟩

theorem contains_in (x : List Int) (v : Int) (hx : x.length ≤ 9) (hv : v ∈ x) (k : Nat) : slices_Contains_int_int.f (k + 9) x v = some true := by
  obtain ⟨i, hi, rfl⟩ := List.mem_iff_getElem.1 hv
  obtain ⟨r, h0, e⟩ := index_in x x[i] (by omega) x.length 0 (k + 9 - x.length) (by omega) ⟨i, by omega, hi, by rw [List.getD_eq_getElem?_getD, List.getElem?_eq_getElem hi]; rfl⟩
  unfold slices_Contains_int_int.f slices_Index_int_int.f
  rw [show k + 9 - x.length + x.length = k + 9 by omega] at e
  rw [show ((0 : Nat) : Int) = 0 from rfl] at e
  rw [e]; simp [h0]

theorem count_run (x : List Int) (p n e : Int) (hx : x.length ≤ 9) : ∀ (m j k no le : Nat), j + m = x.length → no ≤ j → le ≤ j →
    gatekeep2_PercentilesRank.l1 (k + m) x p n e (no : Int) (le : Int) x (x.length : Int) (j : Int) =
      gatekeep2_PercentilesRank.l1 k x p n e ((no + (x.drop j).countP (fun k => decide (k ≤ n)) : Nat) : Int) ((le + (x.drop j).countP (fun k => decide (k < n)) : Nat) : Int) x (x.length : Int) (x.length : Int) := by
  intro m
  induction m with
  | zero =>
    intro j k no le hj _ _
    obtain rfl : j = x.length := by omega
    simp
  | succ m ih =>
    intro j k no le hj hno hle
    have hjl : j < x.length := by omega
    rw [show k + (m + 1) = (k + m) + 1 by omega]
    conv => lhs; simp only [gatekeep2_PercentilesRank.l1]
    rw [if_pos (by omega), if_pos (by omega), if_pos (by omega)]
    have hr : rd x (j : Int) = x[j] := by unfold rd; rw [Int.toNat_natCast, List.getD_eq_getElem?_getD, List.getElem?_eq_getElem hjl]; rfl
    have hd : x.drop j = x[j] :: x.drop (j + 1) := List.drop_eq_getElem_cons hjl
    have w1 : wrap64 ((no : Int) + 1) = ((no + 1 : Nat) : Int) := by rw [Stream.wrap_in (by omega) (by omega)]; rfl
    have w2 : wrap64 ((le : Int) + 1) = ((le + 1 : Nat) : Int) := by rw [Stream.wrap_in (by omega) (by omega)]; rfl
    have w3 : wrap64 ((j : Int) + 1) = ((j + 1 : Nat) : Int) := by rw [Stream.wrap_in (by omega) (by omega)]; rfl
    rw [hr, w1, w2, w3, hd, List.countP_cons, List.countP_cons]
    by_cases c1 : x[j] ≤ n
    · rw [if_pos c1]
      by_cases c2 : x[j] < n
      · rw [if_pos c2, ih (j + 1) k (no + 1) (le + 1) (by omega) (by omega) (by omega)]
        simp only [c1, c2, decide_true, if_true]
        congr 2 <;> omega
      · rw [if_neg c2, ih (j + 1) k (no + 1) le (by omega) (by omega) (by omega)]
        simp only [c1, c2, decide_true, decide_false, if_true]
        congr 2 <;> first | omega | simp
    · rw [if_neg c1, if_neg (by omega), ih (j + 1) k no le (by omega) (by omega) (by omega)]
      have c2 : ¬ x[j] < n := by omega
      simp [c1, c2]

theorem end_ok (x : List Int) (p n : Int) (hx : x.length ≤ 9) (hn : n ∈ x) (m' c1 c2 q : Nat) (hm : 9 ≤ m') (hq : p * (x.length : Int) = (q : Int)) (h9 : q ≤ 9000) (hc1 : c1 ≤ 9) (hc2 : c2 ≤ 9) (h1 : q ≤ c1 * 1000) (h2 : c2 * 1000 < q) :
    gatekeep2_PercentilesRank.l1 (m' + 1) x p n 0 (c1 : Int) (c2 : Int) x (x.length : Int) (x.length : Int) = some true := by
  have hc : slices_Contains_int_int.f m' x n = some true := by
    obtain ⟨m, rfl⟩ : ∃ m, m' = m + 9 := ⟨m' - 9, by omega⟩
    exact contains_in x n hx hn m
  have k1 : wrap64 ((c1 : Int) * 1000) = (c1 : Int) * 1000 := Stream.wrap_in (by omega) (by omega)
  have k2 : wrap64 ((c2 : Int) * 1000) = (c2 : Int) * 1000 := Stream.wrap_in (by omega) (by omega)
  have k3 : wrap64 (q : Int) = (q : Int) := Stream.wrap_in (by omega) (by omega)
  have g1 : (c1 : Int) * 1000 ≥ (q : Int) := by omega
  have g2 : (c2 : Int) * 1000 < (q : Int) := by omega
  have g3 : ¬ ((x.length : Int) < (x.length : Int)) := by omega
  rw [gatekeep2_PercentilesRank.l1, if_neg g3, if_pos rfl, hc, Option.bind_some, if_pos rfl, hq, k1, k2, k3, if_pos g1, if_pos g2]
  rfl
theorem last_ok (x : List Int) (p : Int) (hp : 1 ≤ p) (hp2 : p ≤ 1000) (hx0 : 1 ≤ x.length) (hx : x.length ≤ 9) (k : Nat) :
    (Ext.upstream_Percentile.f x p).bind (fun bt => gatekeep2_PercentilesRank.l1 (k + 20) x p bt.1 bt.2 0 0 x (x.length : Int) 0) = some true := by
  have h1' : 1 ≤ p.toNat * x.length := Nat.mul_pos (by omega) (by omega)
  have h9 : p.toNat * x.length ≤ 1000 * x.length := Nat.mul_le_mul_right _ (by omega)
  have hi : (p.toNat * x.length + 999) / 1000 - 1 < x.length := by omega
  have hpl : p * (x.length : Int) = ((p.toNat * x.length : Nat) : Int) := by rw [Int.natCast_mul, Int.toNat_of_nonneg (by omega)]
  obtain ⟨r1, r2, r3⟩ := rank_ok x _ hi
  have hf : Ext.upstream_Percentile.f x p = some ((srt x).getD ((p.toNat * x.length + 999) / 1000 - 1) 0, 0) := by
    unfold Ext.upstream_Percentile.f srt
    rw [if_pos ⟨hx0, by omega, hp, hp2⟩]
  rw [hf, Option.bind_some]
  clear hf
  obtain ⟨n, hn⟩ : ∃ n, (srt x).getD ((p.toNat * x.length + 999) / 1000 - 1) 0 = n := ⟨_, rfl⟩
  rw [hn] at r1 r2 r3 ⊢
  clear hn
  obtain ⟨q, hq⟩ : ∃ q, p.toNat * x.length = q := ⟨_, rfl⟩
  rw [hq] at r1 r2 h1' h9 hpl hi
  have hb1 : x.countP (fun k => decide (k ≤ n)) ≤ x.length := List.countP_le_length
  have hb2 : x.countP (fun k => decide (k < n)) ≤ x.length := List.countP_le_length
  have e := count_run x p n 0 hx x.length 0 (k + 20 - x.length) 0 0 (by omega) (by omega) (by omega)
  rw [show k + 20 - x.length + x.length = k + 20 by omega] at e
  simp only [List.drop_zero, Nat.zero_add] at e
  simp only [Int.natCast_zero] at e
  refine e.trans ?_
  obtain ⟨m', hm⟩ : ∃ m', k + 20 - x.length = m' + 1 := ⟨k + 19 - x.length, by omega⟩
  rw [hm]
  exact end_ok x p n hx r3 m' _ _ q (by omega) hpl (by omega) (by omega) (by omega) (by omega) (by omega)

theorem fill_run (l : List Int) (hl : l.length ≤ 140737488351232) (r : Nat) (hr : r ≤ 9) : ∀ (m i k : Nat) (x : List Int) (at_ : Int), i + m = r → x.length = i → 0 ≤ at_ → at_ ≤ 10 + i →
    ∃ (x' : List Int) (at' : Int), x'.length = r ∧ 0 ≤ at' ∧ at' ≤ 10 + r ∧ gatekeep2_PercentilesRank.l0 (k + m) x (r : Int) (i : Int) l at_ = gatekeep2_PercentilesRank.l0 k x' (r : Int) (r : Int) l at' := by
  intro m
  induction m with
  | zero =>
    intro i k x at_ hi hx h0 h1
    obtain rfl : i = r := by omega
    exact ⟨x, at_, hx, h0, h1, rfl⟩
  | succ m ih =>
    intro i k x at_ hi hx h0 h1
    obtain ⟨v, _, _, e⟩ := range_ok l at_ (-5) 20 hl h0 (by omega) (by omega) (by omega) (by omega)
    rw [show k + (m + 1) = (k + m) + 1 by omega]
    conv => enter [1, x', 1, at', 2, 2, 2, 1]; simp only [gatekeep2_PercentilesRank.l0]
    rw [if_pos (by omega), e]
    simp only [Option.bind_some]
    rw [if_pos (by omega), Stream.wrap_in (by omega) (by omega), show ((i : Int) + 1) = ((i + 1 : Nat) : Int) by omega]
    exact ih (i + 1) k (x ++ [v]) (at_ + 1) (by omega) (by simp [hx]) (by omega) (by omega)

theorem PercentilesRank : gatekeep2_PercentilesRank.Pure := by
  intro l _ hl _
  have hl' : l.length ≤ 140737488351232 := by omega
  refine ⟨60, ?_⟩
  unfold gatekeep2_PercentilesRank.f
  obtain ⟨v, h1, h2, e⟩ := range_ok l 0 1 9 hl' (by omega) (by omega) (by omega) (by omega) (by omega)
  rw [e]
  simp only [Option.bind_some]
  obtain ⟨r, rfl⟩ := Int.eq_ofNat_of_zero_le (show 0 ≤ v by omega)
  obtain ⟨x, at', hx, a0, a1, e2⟩ := fill_run l hl' r (by omega) r 0 (60 - r) [] 1 (by omega) rfl (by omega) (by omega)
  rw [show 60 - r + r = 60 by omega, show ((0 : Nat) : Int) = 0 from rfl] at e2
  obtain ⟨m, hm⟩ : ∃ m, 60 - r = m + 1 := ⟨59 - r, by omega⟩
  rw [show (0 : Int) + 1 = 1 from rfl, e2, hm]
  simp only [gatekeep2_PercentilesRank.l0]
  rw [if_neg (by omega)]
  obtain ⟨p, p1, p2, e3⟩ := range_ok l at' 1 1000 hl' a0 (by omega) (by omega) (by omega) (by omega)
  rw [e3]
  simp only [Option.bind_some]
  obtain ⟨m', rfl⟩ : ∃ m', m = m' + 20 := ⟨m - 20, by omega⟩
  exact last_ok x p p1 p2 (by omega) (by omega) m'
end Go.Proofs.YthgjnpmebjlecaaGreatDoor.Pure
/- 'gatewarden/gatekeep2.PercentilesRank': for every list of whole numbers the law returns true, and the list reads behind the call as it read before; condition: the listed variables of Go's library hold what the program's text lays, which the card ties. -/
namespace Go.Proofs.YthgjnpmebjlecaaGreatDoor.percentilesRank
open Go.ChangeShapes Go.WideShapes Go.ChangeAt Go.RowKit Go.Proofs.YthgjnpmebjlecaaGreatDoorW
set_option linter.unusedVariables false
theorem own : ownKnob Tryz.prog.godebug = none := by kernel_rfl
theorem laidOut : laidOutB Tryz.prog = true := by kernel_rfl
def IsRow (k : IntKind) (w : World) (a : Option Addr) (len cap : Nat) (zs : List Int) : Prop :=
  (a = none ∧ len = 0 ∧ cap = 0 ∧ zs = []) ∨
  ∃ x, a = some x ∧ len ≤ cap ∧ cap ≤ maxLen ∧ zs.length = cap ∧ (∀ i, i < zs.length → w.cell? (x.add i) = some (.int k (zs.getD i 0))) ∧ ∀ n ∈ zs, (Lit.int k n).wf = true
set_option maxRecDepth 100000 in
theorem lifted (os : Os) (started : os.Started) (H : Type) (enc : TypeId × Value → H) :
    ReturnsInHanded {} Tryz.checked os 4 .any (fun w args => (Rows.percentilesRankSpec.pre enc Tryz.prog Tryz.f4 Rows.percentilesRankRow.domain false w args ∧ laidMetH Tryz.prog Rows.percentilesRankRow.laid w) ∧ sizedMet enc Tryz.prog Tryz.f4 (OpenSpec.ofChange Rows.percentilesRankSpec) false w args)
      (Rows.percentilesRankSpec.post enc Tryz.prog Tryz.f4 false true false false) := by
  refine returnsInHanded_of_change_and (C := Tryz.checked) (X := fun w _ => laidMetH Tryz.prog Rows.percentilesRankRow.laid w) (fun _ _ _ hh h => h.of_heap hh) own started (by kernel_rfl) Tryz.func4
    (ChangeSpec.witness_shaped (enc := enc) (C := Tryz.checked) (os := os) (X := fun w _ => laidMetH Tryz.prog Rows.percentilesRankRow.laid w) false (World.laidAll Tryz.prog os Rows.percentilesRankRow.laid) #[.slice none 0 0] 8 (World.laidAll_os _ _ _)
      (World.shaped_of_ZipB (by kernel_rfl) (by kernel_rfl)) (by kernel_rfl) (by kernel_rfl) (by kernel_rfl)
      (by rw [MakeChecks.laidMetH_plain _ _ _ (by kernel_rfl)]; exact laidMet_laidAll _ (by kernel_rfl) (by kernel_rfl))) ?_
  intro W base args ds gs before hval0 hW hcnd hsz0 hL _
  have hsz : (DataW.weightsEach Tryz.prog (Tryz.f4.params.toList ++ Rows.percentilesRankSpec.plain.varTypes Tryz.prog) (ds ++ gs)).all (· ≤ reachBytes) = true := hsz0
  have hval : ∀ (j : Nat) t v, Tryz.f4.params[j]? = some t → args[j]? = some v → Value.okWide Tryz.prog W .any base t v := hval0
  have hW' := hW
  obtain ⟨p, q, hA0, hV, rfl, hfz, hnd⟩ := hW
  have hA : DataW.TrodAll enc Tryz.prog W 0 (fun _ => true) true Tryz.f4.params.toList args.toList ds p := hA0
  rw [Tryz.params4] at hA hval hsz
  obtain ⟨v0, vs0, d0, ds0, p0, q0, hargs, rfl, rfl, h0, r0⟩ := trodAll_cons hA
  obtain ⟨rfl, rfl, rfl⟩ := trodAll_nil r0
  obtain rfl : args = #[v0] := by cases args; simp_all
  obtain ⟨rfl, rfl⟩ := trodVars_none hV
  obtain ⟨a0, len0, cap0, rfl⟩ := okWide_slice Tryz.underlying22 (hval 0 22 v0 rfl rfl)
  have k0 := h0
  have lt0 : ∀ x ∈ p0, x.block < W.heap.size := by obtain ⟨m, hm⟩ := k0; exact DataW.trod_lt m _ _ _ hm
  obtain ⟨z0, w0⟩ : ∃ zs, IsRow .i64 W a0 len0 cap0 zs := by
    obtain ⟨fuel, hf⟩ := h0
    rcases open_ints Tryz.underlying22 Tryz.underlying3 (by kernel_rfl) hf with ⟨hcs, _⟩ | ⟨x, l, c, zs, hcs, _, hl, hm, hz, _, hcell, hwz⟩
    · simp [Value.cells] at hcs
      obtain ⟨rfl, rfl, rfl⟩ := hcs
      exact ⟨[], .inl ⟨rfl, rfl, rfl, rfl⟩⟩
    · simp [Value.cells] at hcs
      obtain ⟨rfl, rfl, rfl⟩ := hcs
      exact ⟨zs, .inr ⟨_, rfl, hl, hm, by simpa using hz, hcell, hwz⟩⟩
  have y0 : len0 * 8 ≤ 140737488351232 := PrintWords.sized_ints hsz (j := 0) (t := 22) rfl rfl Tryz.underlying22 Tryz.underlying3 (by kernel_rfl) (by kernel_rfl) h0
  clear hA0 hval0 hsz0 hsz
  refine (P.gatekeep2_PercentilesRank.walk Pure.PercentilesRank a0 len0 cap0 z0 W w0 y0).mono fun e W' ⟨he, bel⟩ => ?_
  subst he
  exact ⟨_, rfl, _, _, _, [], _, [], hW', trodAll_mk1 (shut_bool Tryz.underlying4 _), (trodAll_cons_mk (Below.trod laidOut (by kernel_rfl) (of_decide_eq_true (by kernel_rfl)) k0 bel lt0) trodAll_mk0), rfl, bel.frame _, fun h => by cases h⟩
theorem said : Rows.PercentilesRankSaid :=
  OpenClaim.holds_of_wide 4 Tryz.f4 rfl rfl rfl rfl rfl rfl rfl ⟨rfl, rfl, rfl, rfl, rfl⟩ rfl rfl rfl rfl rfl (by kernel_rfl) Tryz.func4 (by kernel_rfl)
    (of_decide_eq_true (by kernel_rfl)) (by unfold Func.isWrapper; first | (rw [if_pos (by decide +kernel)]; kernel_rfl) | (rw [if_neg (by decide +kernel)]; exact ⟨rfl, rfl⟩))
    (fun os started H enc _ => lifted os started H enc)
theorem plain (f : FuncId) (fn : Func) (hf : Tryz.pinned.checked.prog.funcNamed Tryz.f4.name = some f) (hfn : Tryz.pinned.checked.prog.funcs[f]? = some fn) :
    true = Tryz.pinned.checked.prog.looks [] ∧ ∀ (j : Nat) t, fn.params[j]? = some t → Tryz.pinned.checked.prog.wantsStandIn t = false := by
  obtain rfl : f = 4 := Option.some.inj ((show Tryz.prog.funcNamed Tryz.f4.name = some 4 by kernel_rfl).symm.trans hf) |>.symm
  obtain rfl : fn = Tryz.f4 := (Option.some.inj (Tryz.func4.symm.trans hfn)).symm
  refine ⟨by kernel_rfl, fun j t ht => ?_⟩
  rw [Tryz.params4] at ht
  obtain rfl : t = 22 := by simpa using Array.mem_of_getElem? ht
  exact (show Tryz.prog.wantsStandIn 22 = false by kernel_rfl)
theorem card : Rows.PercentilesRankCardSaid :=
  Claim7.holds_tied_plain_at .later [] _ _ _ _ said (fun _ h => by cases h) (by kernel_rfl) (fun _ h => by cases h) percentilesRank_row_tie rfl ⟨rfl, rfl⟩ (by kernel_rfl) rfl plain (by kernel_rfl)
#print axioms card
end Go.Proofs.YthgjnpmebjlecaaGreatDoor.percentilesRank
namespace Go.Proofs.YthgjnpmebjlecaaGreatDoor
theorem percentilesRank_card : Rows.PercentilesRankCardSaid := percentilesRank.card
end Go.Proofs.YthgjnpmebjlecaaGreatDoor
