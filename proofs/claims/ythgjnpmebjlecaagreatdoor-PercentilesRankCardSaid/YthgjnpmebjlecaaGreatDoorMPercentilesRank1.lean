/- Several texts of one proof in one file, one after another, each with its own head: the machine's side of a law and the plain side; conditions: those of each theorem. -/
import Derived.Test.YthgjnpmebjlecaaGreatDoorMPercentilesRank0
import Derived.Shelf.Strings.BuilderK
import Derived.Shelf.Strings.MapGrows
import Derived.Test.YthgjnpmebjlecaaGreatDoorWWords
import Derived.WalkKit
import Derived.Below
set_option linter.unusedVariables false
set_option linter.unusedSimpArgs false
/- The machine's side, printed by a program of this session: each Go function named below comes to the Lean function of its name; conditions: those of each theorem. -/
namespace Go.Proofs.YthgjnpmebjlecaaGreatDoor.P
open Go.RowKit Go.Proofs.YthgjnpmebjlecaaGreatDoorW.PrintWords Go.Proofs.YthgjnpmebjlecaaGreatDoorW.PrintLast Go.Proofs.YthgjnpmebjlecaaGreatDoorW.PrintMore
attribute [local go_sem] max2_int min2_int max_two min_two max_three min_three max_four min_four   -- for this text's walks alone
set_option linter.unusedVariables false
set_option linter.unusedSimpArgs false

/-! ### message_Values: function 54 -/
def message_Values.l0 : Nat → ByteArray → List ByteArray → List (S49) → Int → Int → Option (List ByteArray)
  | 0, _, _, _, _, _ => none
  | k + 1, x1, x5, x8, x9, x10 => if x10 < x9 then (if 0 ≤ x10 then (if x10 < (x8.length : Int) then ((message_isNamed.f ((rd_T49 x8 x10).f0) ((rd_T49 x8 x10).f1) x1).bind fun t270 => (if t270 = true then (if x5.length < 8796093022208 then (message_Values.l0 k x1 (x5 ++ [(rd_T49 x8 x10).f1]) x8 x9 (wrap64 (x10 + 1))) else (none)) else (message_Values.l0 k x1 x5 x8 x9 (wrap64 (x10 + 1))))) else (none)) else (none)) else (some x5)
def message_Values.f (k : Nat) (l0 : List (S49)) (a1 : ByteArray) : Option (List ByteArray) := message_Values.l0 k a1 ([] : List ByteArray) l0 (l0.length : Int) 0
theorem message_Values.mono_l : ∀ k, (∀ y0 y1 y2 y3 y4, LeO (message_Values.l0 k y0 y1 y2 y3 y4) (message_Values.l0 (k + 1) y0 y1 y2 y3 y4))
  | 0 => fun _ _ _ _ _ r h => by simp [message_Values.l0] at h
  | k + 1 => by
    have ih0 := message_Values.mono_l k
    · intro y0 y1 y2 y3 y4
      unfold message_Values.l0
      repeat' first
      | (with_reducible exact ih0 _ _ _ _ _)
      | (with_reducible exact LeO.refl _)
      | (with_reducible exact LeO.none _)
      | (with_reducible refine LeO.ite ?_ ?_)
      | (with_reducible refine LeO.bind ?_ (fun _ => ?_))
      | exact ih0 _ _ _ _ _
      | exact LeO.none _
      | refine LeO.ite ?_ ?_
      | refine LeO.bind ?_ (fun _ => ?_)
theorem message_Values.mono : ∀ a0 a1 k, LeO (message_Values.f k a0 a1) (message_Values.f (k + 1) a0 a1) := by
  intro a0 a1 k
  have ih0 := message_Values.mono_l k
  unfold message_Values.f
  repeat' first
      | (with_reducible exact ih0 _ _ _ _ _)
      | (with_reducible exact LeO.refl _)
      | (with_reducible exact LeO.none _)
      | (with_reducible refine LeO.ite ?_ ?_)
      | (with_reducible refine LeO.bind ?_ (fun _ => ?_))
      | exact ih0 _ _ _ _ _
      | exact LeO.none _
      | refine LeO.ite ?_ ?_
      | refine LeO.bind ?_ (fun _ => ?_)
set_option maxHeartbeats 8000000 in
set_option maxRecDepth 100000 in
theorem message_Values.calls (k : Nat) (A0 : Option Addr) (c0 : Nat) (l0 : List (S49)) (a1 : ByteArray) (r : List ByteArray) (w : World) (hr0 : Kd.C k49 w A0 l0.length l0) (hc0 : l0.length ≤ c0) (h : message_Values.f k l0 a1 = some r) :
    Calls Tryz.prog 54 #[.slice A0 l0.length c0, .string a1] w fun e w' => ∃ v0_ : Value, e = .returned (v0_) ∧ Kd.R Kd.string 9 w' w.heap.size (fun _ => True) v0_ r ∧ Below w.heap.size w w' := by
  have hu49 := Tryz.underlying49
  have HR0 := Aside0.mk hr0
  have HC0 := Aside0.mk hc0
  clear hr0 hc0
  have HB := Aside0.mk (Below.refl w.heap.size w)
  have H : (message_Values.l0 k a1 ([] : List ByteArray) l0 (l0.length : Int) 0) = some r := h
  clear h
  have H' := Aside0.mk H
  clear H
  go_enter Tryz.func54, Tryz.ntmps54
  go_wp2
  go_loopg [5, 10] k (fun kq v5 v10 w' => ∃ (x5_1 : List ByteArray) (x10_1 : Int), v10 = .int .i64 x10_1 ∧ Aside0 (message_Values.l0 kq a1 x5_1 l0 (l0.length : Int) x10_1 = some r) ∧ Aside0 (kq ≤ k) ∧ Aside0 (Kd.R Kd.string 9 w' w.heap.size (fun _ => True) v5 x5_1) ∧ Aside0 (Below w.heap.size w w'))
  case atStart => exact ⟨(([] : List ByteArray)), (0), (by first | rfl | (simp; done) | (simp [*]; done)), H', ⟨Nat.le_refl _⟩, ⟨by first | exact Kd.R_nil _ _ _ _ _ | exact Kd.N_nil _ _ _ _ _ | exact Kd.V_nil _ _ _ _ _ | exact Kd.Q_nil _ _ _ _ _ | exact Kd.S_nil _ _ _ _ _⟩, ⟨by repeat (first | (with_reducible first | exact HB.out | apply below_alloc | apply pw_below_drewN | apply below_drew1) | exact HB.out)⟩⟩
  case round =>
    clear H'
    try clear p2
    obtain ⟨x5_1, x10_1, rfl, HA, HK1, HO_5, HB⟩ := hrel
    cases gk with
    | zero => exact absurd HA.out (by simp [message_Values.l0])
    | succ k1 =>
      have H := HA.out
      clear HA
      simp only [message_Values.l0] at H
      by_cases c3 : x10_1 < (l0.length : Int)
      · rw [if_pos c3] at H
        have c3b0 : decide (x10_1 < (l0.length : Int)) = true := decide_eq_true c3
        clear c3
        by_cases c4 : 0 ≤ x10_1
        · rw [if_pos c4] at H
          have c4b0 : decide (0 ≤ x10_1) = true := decide_eq_true c4
          clear c4
          by_cases c5 : x10_1 < (l0.length : Int)
          · rw [if_pos c5] at H
            have c5b0 : decide (x10_1 < (l0.length : Int)) = true := decide_eq_true c5
            clear c5
            replace H := Option.bind_eq_some_iff.mp H
            obtain ⟨t270, A60, H⟩ := H
            replace H : (if t270 = true then (if x5_1.length < 8796093022208 then (message_Values.l0 k1 a1 (x5_1 ++ [(rd_T49 l0 x10_1).f1]) l0 (l0.length : Int) (wrap64 (x10_1 + 1))) else (none)) else (message_Values.l0 k1 a1 x5_1 l0 (l0.length : Int) (wrap64 (x10_1 + 1)))) = some r := H
            have A6 := Aside0.mk A60
            clear A60
            by_cases c7 : t270 = true
            · subst c7
              have H1 : (if x5_1.length < 8796093022208 then (message_Values.l0 k1 a1 (x5_1 ++ [(rd_T49 l0 x10_1).f1]) l0 (l0.length : Int) (wrap64 (x10_1 + 1))) else (none)) = some r := by rw [if_pos rfl] at H; exact H
              clear H
              have H := H1
              clear H1
              by_cases c8 : x5_1.length < 8796093022208
              · rw [if_pos c8] at H
                have LMc8 := Aside0.mk c8
                clear c8
                obtain ⟨y271, hy271⟩ : ∃ y_ : List ByteArray, y_ = (x5_1 ++ [(rd_T49 l0 x10_1).f1]) := ⟨_, rfl⟩
                replace H : (message_Values.l0 k1 a1 y271 l0 (l0.length : Int) (wrap64 (x10_1 + 1))) = some r := by first | (rw [hy271]; with_reducible exact H) | (have H2_ := (Option.bind_some _ _).symm.trans H; rw [hy271]; with_reducible exact H2_) | (have H2_ := (Option.bind_some _ _).symm.trans H; with_reducible exact H2_) | with_reducible exact H | (rw [hy271]; exact H) | exact H
                have Ny271 := Aside0.mk hy271
                clear hy271
                have H' := Aside0.mk H
                clear H
                have p268 : 0 ≤ (x10_1 : Int) := of_decide_eq_true (by first | (with_reducible assumption) | assumption)
                have q268 : x10_1 < (l0.length : Int) := of_decide_eq_true (by first | (with_reducible assumption) | assumption)
                obtain ⟨ad268, e268, hx268_0, hx268_1⟩ := at_T49 HR0.out x10_1 p268 q268
                cases e268
                replace hx268_0 := (HB.out.cell (World.block_lt_of_cell? w _ hx268_0)).trans hx268_0
                replace hx268_1 := (HB.out.cell (World.block_lt_of_cell? w _ hx268_1)).trans hx268_1
                replace p268 := eq_true p268
                replace q268 := eq_true q268
                go_wp2_with (first | ((with_reducible refine gate_dst (N := 7) rfl ?_); refine box_event ?hg (N := 7) ?hd (cs := #[.string (⟨#[]⟩ : ByteArray), .string (⟨#[]⟩ : ByteArray)]) (t := 49) ?hr ?_; (case hd => rfl); (case hg => rfl); (case hr => first | (go_simp; done) | (go_simp; rfl)); intro gb269 hg w9 hbox hb; have n0_ := Aside0.mk (Kd.R_below (by (with_reducible repeat (first | apply Kd.R_alloc | apply Kd.R_drewN | apply Kd.R_drew)); exact HO_5.out) hb); have n1_ := Aside0.mk (below_step (by repeat (first | (with_reducible first | exact HB.out | apply below_alloc | apply pw_below_drewN | apply below_drew1) | exact HB.out)) hb); have n2_ := Aside0.mk (hbox); have n3_ := Aside0.mk ((by rw [hg]; exact (below_size (by repeat (first | (with_reducible first | exact HB.out | apply below_alloc | apply pw_below_drewN | apply below_drew1) | exact HB.out))) : w.heap.size ≤ gb269)); have n4_ := Aside0.mk ((by rw [hg]; exact (below_size (by repeat (first | (with_reducible first | exact HB.out | apply below_alloc | apply pw_below_drewN | apply below_drew1) | exact HB.out))) : w.heap.size ≤ gb269)); clear HO_5; clear HB; have HO_5 := n0_; have HB := n1_; have BK269 := n2_; have GW269 := n3_; have GE269 := n4_; clear n0_ n1_ n2_ n3_ n4_; clear hb hbox hg; have hcz10_0 : w9.cell? ⟨gb269, 0, none⟩ = some (.string (⟨#[]⟩ : ByteArray)) := (blk_cell BK269.out 0).trans rfl; have hcz10_1 : w9.cell? ⟨gb269, 1, none⟩ = some (.string (⟨#[]⟩ : ByteArray)) := (blk_cell BK269.out 1).trans rfl; have hfz10_0 := blk_frozen BK269.out 0; have hfz10_1 := blk_frozen BK269.out 1) | ((with_reducible refine gate_callee (f := 85) rfl ?_); refine goesL_ (some 16) rfl rfl Tryz.func85 (by kernel_rfl) rfl #[.agg #[.string ((rd_T49 l0 x10_1).f0), .string ((rd_T49 l0 x10_1).f1)], .string a1] rfl (by (try simp only [List.map_toArray, List.map_cons, List.map_nil]); first | done | rfl | (simp only [List.length_drop, List.length_take]; rfl)) ?_; (with_reducible refine (message_isNamed.calls ((rd_T49 l0 x10_1).f0) ((rd_T49 l0 x10_1).f1) a1 true _ A6.out).mono ?_); rintro e w11 ⟨rfl, hb⟩; refine ⟨_, rfl, ?_⟩; have n0_ := Aside0.mk (Kd.R_below (by (with_reducible repeat (first | apply Kd.R_alloc | apply Kd.R_drewN | apply Kd.R_drew)); exact (Kd.R_mono (Kd.R_far (p := ⟨gb269, 1, none⟩) (Kd.R_far (p := ⟨gb269, 0, none⟩) (Kd.R_types HO_5.out BK269.out (by decide)) (fun _ hk => hk.2) (.string ((rd_T49 l0 x10_1).f0))) (fun _ hk => hk.2) (.string ((rd_T49 l0 x10_1).f1))) (fun _ h_ => h_.1))) hb); have n1_ := Aside0.mk (blk_below (g := gb269) (o := .cells #[.string ((rd_T49 l0 x10_1).f0), .string ((rd_T49 l0 x10_1).f1)] 49 (0, 0)) (by (with_reducible repeat (first | refine blk_drewN ?_ _ | refine blk_drew ?_ | refine blk_alloc ?_ _)); refine blk_put (cs := #[.string ((rd_T49 l0 x10_1).f0), .string (⟨#[]⟩ : ByteArray)]) ?_ 1 _ rfl; (with_reducible repeat (first | refine blk_drewN ?_ _ | refine blk_drew ?_ | refine blk_alloc ?_ _)); refine blk_put (cs := #[.string (⟨#[]⟩ : ByteArray), .string (⟨#[]⟩ : ByteArray)]) ?_ 0 _ rfl; (with_reducible repeat (first | refine blk_drewN ?_ _ | refine blk_drew ?_ | refine blk_alloc ?_ _)); exact BK269.out) hb); have n2_ := Aside0.mk (below_step (by repeat (first | (with_reducible first | exact HB.out | apply below_alloc | apply pw_below_drewN | apply below_drew1 | refine below_set ?_ GE269.out) | exact HB.out)) hb); clear HO_5; clear BK269; clear HB; have HO_5 := n0_; have BK269 := n1_; have HB := n2_; clear n0_ n1_ n2_; (try clear hb); (try clear hb2); (try clear hk); (try clear hi); have hcz12_0 : w11.cell? ⟨gb269, 0, none⟩ = some (.string ((rd_T49 l0 x10_1).f0)) := (blk_cell BK269.out 0).trans rfl; have hcz12_1 : w11.cell? ⟨gb269, 1, none⟩ = some (.string ((rd_T49 l0 x10_1).f1)) := (blk_cell BK269.out 1).trans rfl; have hfz12_0 := blk_frozen BK269.out 0; have hfz12_1 := blk_frozen BK269.out 1) | ((with_reducible refine gate_builtin (b := .append) (xs := #[.tmp 17, .tmp 20]) rfl ?_); at_builtin; refine Kd.R_append Kd.string (w0 := w) w.heap.size rfl (.tmp 17) (.tmp 20) 30 9 (.string ⟨#[]⟩) 16 rfl Tryz.underlying30 info9 rfl (by decide) (by omega) u5 x5_1 ((rd_T49 l0 x10_1).f1) [.string ((rd_T49 l0 x10_1).f1)] (fun _ => True) (fun _ => False) rfl rfl ?aP (fun _ hk => hk.elim) ?aF ?aO ?aB ?aS ?aL ?_; (case aP => exact rfl); (case aB => exact (by repeat (first | (with_reducible first | exact HB.out | apply below_alloc | apply pw_below_drewN | apply below_drew1 | refine below_set ?_ GE269.out) | exact HB.out))); (case aF => exact (fun _ _ => trivial)); (case aO => exact (by (with_reducible repeat (first | apply Kd.R_alloc | apply Kd.R_drewN | apply Kd.R_drew)); exact HO_5.out)); (case aS => exact (below_size (by repeat (first | (with_reducible first | exact HB.out | apply below_alloc | apply pw_below_drewN | apply below_drew1 | refine below_set ?_ GE269.out) | exact HB.out)))); (case aL => have := LMc8.out; omega); intro v272 w13 ho hb hg hat; rw [← Ny271.out] at ho; have n0_ := Aside0.mk (blk_grown (g := gb269) (o := .cells #[.string ((rd_T49 l0 x10_1).f0), .string ((rd_T49 l0 x10_1).f1)] 49 (0, 0)) (by (with_reducible repeat (first | refine blk_drewN ?_ _ | refine blk_drew ?_ | refine blk_alloc ?_ _)); exact BK269.out) hg (Kd.R_ne HO_5.out BK269.out (by decide))); have n1_ := Aside0.mk (hb); have n2_ := Aside0.mk (ho); clear BK269; clear HB; clear HO_5; have BK269 := n0_; have HB := n1_; have HO273 := n2_; clear n0_ n1_ n2_; clear ho hb hg hat))
                go_roundg k1
                case measure => have := HK1.out; omega
                case rel => exact ⟨(y271), (wrap64 (x10_1 + 1)), (by first | rfl | (simp; done) | (simp [*]; done)), H', ⟨by have := HK1.out; omega⟩, ⟨by (with_reducible repeat (first | apply Kd.R_alloc | apply Kd.R_drewN | apply Kd.R_drew)); exact HO273.out⟩, ⟨by repeat (first | (with_reducible first | exact HB.out | apply below_alloc | apply pw_below_drewN | apply below_drew1 | refine below_set ?_ GE269.out) | exact HB.out)⟩⟩
              · rw [if_neg c8] at H
                exact absurd H (by simp)
            · replace c7 := Bool.eq_false_iff.mpr c7
              subst c7
              have H1 : (message_Values.l0 k1 a1 x5_1 l0 (l0.length : Int) (wrap64 (x10_1 + 1))) = some r := by rw [if_neg (show ¬ (false = true) by decide)] at H; exact H
              clear H
              have H := H1
              clear H1
              have H' := Aside0.mk H
              clear H
              have p268 : 0 ≤ (x10_1 : Int) := of_decide_eq_true (by first | (with_reducible assumption) | assumption)
              have q268 : x10_1 < (l0.length : Int) := of_decide_eq_true (by first | (with_reducible assumption) | assumption)
              obtain ⟨ad268, e268, hx268_0, hx268_1⟩ := at_T49 HR0.out x10_1 p268 q268
              cases e268
              replace hx268_0 := (HB.out.cell (World.block_lt_of_cell? w _ hx268_0)).trans hx268_0
              replace hx268_1 := (HB.out.cell (World.block_lt_of_cell? w _ hx268_1)).trans hx268_1
              replace p268 := eq_true p268
              replace q268 := eq_true q268
              go_wp2_with (first | ((with_reducible refine gate_dst (N := 7) rfl ?_); refine box_event ?hg (N := 7) ?hd (cs := #[.string (⟨#[]⟩ : ByteArray), .string (⟨#[]⟩ : ByteArray)]) (t := 49) ?hr ?_; (case hd => rfl); (case hg => rfl); (case hr => first | (go_simp; done) | (go_simp; rfl)); intro gb269 hg w14 hbox hb; have n0_ := Aside0.mk (Kd.R_below (by (with_reducible repeat (first | apply Kd.R_alloc | apply Kd.R_drewN | apply Kd.R_drew)); exact HO_5.out) hb); have n1_ := Aside0.mk (below_step (by repeat (first | (with_reducible first | exact HB.out | apply below_alloc | apply pw_below_drewN | apply below_drew1) | exact HB.out)) hb); have n2_ := Aside0.mk (hbox); have n3_ := Aside0.mk ((by rw [hg]; exact (below_size (by repeat (first | (with_reducible first | exact HB.out | apply below_alloc | apply pw_below_drewN | apply below_drew1) | exact HB.out))) : w.heap.size ≤ gb269)); have n4_ := Aside0.mk ((by rw [hg]; exact (below_size (by repeat (first | (with_reducible first | exact HB.out | apply below_alloc | apply pw_below_drewN | apply below_drew1) | exact HB.out))) : w.heap.size ≤ gb269)); clear HO_5; clear HB; have HO_5 := n0_; have HB := n1_; have BK269 := n2_; have GW269 := n3_; have GE269 := n4_; clear n0_ n1_ n2_ n3_ n4_; clear hb hbox hg; have hcz15_0 : w14.cell? ⟨gb269, 0, none⟩ = some (.string (⟨#[]⟩ : ByteArray)) := (blk_cell BK269.out 0).trans rfl; have hcz15_1 : w14.cell? ⟨gb269, 1, none⟩ = some (.string (⟨#[]⟩ : ByteArray)) := (blk_cell BK269.out 1).trans rfl; have hfz15_0 := blk_frozen BK269.out 0; have hfz15_1 := blk_frozen BK269.out 1) | ((with_reducible refine gate_callee (f := 85) rfl ?_); refine goesL_ (some 16) rfl rfl Tryz.func85 (by kernel_rfl) rfl #[.agg #[.string ((rd_T49 l0 x10_1).f0), .string ((rd_T49 l0 x10_1).f1)], .string a1] rfl (by (try simp only [List.map_toArray, List.map_cons, List.map_nil]); first | done | rfl | (simp only [List.length_drop, List.length_take]; rfl)) ?_; (with_reducible refine (message_isNamed.calls ((rd_T49 l0 x10_1).f0) ((rd_T49 l0 x10_1).f1) a1 false _ A6.out).mono ?_); rintro e w16 ⟨rfl, hb⟩; refine ⟨_, rfl, ?_⟩; have n0_ := Aside0.mk (Kd.R_below (by (with_reducible repeat (first | apply Kd.R_alloc | apply Kd.R_drewN | apply Kd.R_drew)); exact (Kd.R_mono (Kd.R_far (p := ⟨gb269, 1, none⟩) (Kd.R_far (p := ⟨gb269, 0, none⟩) (Kd.R_types HO_5.out BK269.out (by decide)) (fun _ hk => hk.2) (.string ((rd_T49 l0 x10_1).f0))) (fun _ hk => hk.2) (.string ((rd_T49 l0 x10_1).f1))) (fun _ h_ => h_.1))) hb); have n1_ := Aside0.mk (blk_below (g := gb269) (o := .cells #[.string ((rd_T49 l0 x10_1).f0), .string ((rd_T49 l0 x10_1).f1)] 49 (0, 0)) (by (with_reducible repeat (first | refine blk_drewN ?_ _ | refine blk_drew ?_ | refine blk_alloc ?_ _)); refine blk_put (cs := #[.string ((rd_T49 l0 x10_1).f0), .string (⟨#[]⟩ : ByteArray)]) ?_ 1 _ rfl; (with_reducible repeat (first | refine blk_drewN ?_ _ | refine blk_drew ?_ | refine blk_alloc ?_ _)); refine blk_put (cs := #[.string (⟨#[]⟩ : ByteArray), .string (⟨#[]⟩ : ByteArray)]) ?_ 0 _ rfl; (with_reducible repeat (first | refine blk_drewN ?_ _ | refine blk_drew ?_ | refine blk_alloc ?_ _)); exact BK269.out) hb); have n2_ := Aside0.mk (below_step (by repeat (first | (with_reducible first | exact HB.out | apply below_alloc | apply pw_below_drewN | apply below_drew1 | refine below_set ?_ GE269.out) | exact HB.out)) hb); clear HO_5; clear BK269; clear HB; have HO_5 := n0_; have BK269 := n1_; have HB := n2_; clear n0_ n1_ n2_; (try clear hb); (try clear hb2); (try clear hk); (try clear hi)))
              go_roundg k1
              case measure => have := HK1.out; omega
              case rel => exact ⟨(x5_1), (wrap64 (x10_1 + 1)), (by first | rfl | (simp; done) | (simp [*]; done)), H', ⟨by have := HK1.out; omega⟩, ⟨by (with_reducible repeat (first | apply Kd.R_alloc | apply Kd.R_drewN | apply Kd.R_drew)); exact HO_5.out⟩, ⟨by repeat (first | (with_reducible first | exact HB.out | apply below_alloc | apply pw_below_drewN | apply below_drew1 | refine below_set ?_ GE269.out) | exact HB.out)⟩⟩
          · rw [if_neg c5] at H
            exact absurd H (by simp)
        · rw [if_neg c4] at H
          exact absurd H (by simp)
      · rw [if_neg c3] at H
        have c3b0 : decide (x10_1 < (l0.length : Int)) = false := decide_eq_false c3
        clear c3
        obtain rfl := Option.some.inj H
        go_wp2
        go_ret
        exact ⟨_, by first | rfl | (simp [errW_none, errW_some] <;> rfl) | (simp [*, errW_none, errW_some] <;> rfl), by (with_reducible repeat (first | apply Kd.R_alloc | apply Kd.R_drewN | apply Kd.R_drew)); exact HO_5.out, by repeat (first | (with_reducible first | exact HB.out | apply below_alloc | apply pw_below_drewN | apply below_drew1) | exact HB.out)⟩

end Go.Proofs.YthgjnpmebjlecaaGreatDoor.P
/- cache.parse of headers that tell one part, 'max-age=2': it hands back a control with that age and no other; condition: the headers are that one. -/
namespace Go.Proofs.YthgjnpmebjlecaaGreatDoor.Ext
open Go.RowKit Go.Proofs.YthgjnpmebjlecaaGreatDoorW.PrintWords Go.Proofs.YthgjnpmebjlecaaGreatDoorW.PrintLast Go.Proofs.YthgjnpmebjlecaaGreatDoorW.PrintMore Go.Proofs.YthgjnpmebjlecaaGreatDoor.P

def ccName : ByteArray := ⟨#[99, 97, 99, 104, 101, 45, 99, 111, 110, 116, 114, 111, 108]⟩
def ageTwo : ByteArray := ⟨#[109, 97, 120, 45, 97, 103, 101, 61, 50]⟩
def vl (k j : Nat) : Int := if j < k then -1 else 0
set_option maxHeartbeats 4000000 in
set_option maxRecDepth 100000 in
theorem cell_keep {w w' : World} {g a i : Nat} {v : Value} (h : w.cell? ⟨a, i, none⟩ = some v) (hk : KeepBut w w' g none) (hne : a ≠ g) : w'.cell? ⟨a, i, none⟩ = some v := by
  have hlt : a < w.heap.size := by
    rcases Nat.lt_or_ge a w.heap.size with h1 | h1
    · exact h1
    · have : w.heap[a]? = none := Array.getElem?_eq_none h1
      simp [World.cell?, this] at h
  have e := hk.2 a hlt hne (by simp)
  simp only [World.cell?, e] at h ⊢
  exact h
set_option maxHeartbeats 4000000 in
set_option maxRecDepth 100000 in
theorem parse_age (A0 : Option Addr) (c0 : Nat) (l0 : List S49) (w : World) (hr0 : Kd.C k49 w A0 l0.length l0) (hc0 : l0.length ≤ c0) (k : Nat)
    (h1 : message_Values.f k l0 ccName = some [ageTwo]) (h2 : message_Parts.f k [ageTwo] = some [ageTwo])
    (g1 : strings_Cut.f ageTwo ⟨#[61]⟩ = some (⟨#[109, 97, 120, 45, 97, 103, 101]⟩, ⟨#[50]⟩, true)) (g2 : cache_seconds.f k ⟨#[50]⟩ = some (2, true)) (g3 : message_IsToken.f k ⟨#[109, 97, 120, 45, 97, 103, 101]⟩ = some true)
    (g4 : strings_ToLower.f ⟨#[109, 97, 120, 45, 97, 103, 101]⟩ = some ⟨#[109, 97, 120, 45, 97, 103, 101]⟩) (g5 : slices_Index_string_string.f k flagNames ⟨#[109, 97, 120, 45, 97, 103, 101]⟩ = some (-1)) (g6 : slices_Index_string_string.f k numberNames ⟨#[109, 97, 120, 45, 97, 103, 101]⟩ = some 0) :
    Calls Tryz.prog 33 #[.slice A0 l0.length c0] w fun e w' => e = .returned (.tuple #[.agg #[.bool false, .bool false, .bool false, .bool false, .bool false, .bool false, .int .i64 2, .int .i64 (-1), .int .i64 (-1), .int .i64 (-1), .int .i64 (-1), .int .i64 (-1)], .int .i64 0]) ∧ Below w.heap.size w w' := by
  have H1 := Lib.hid h1
  have H2 := Lib.hid h2
  have G1 := Lib.hid g1
  have G2 := Lib.hid g2
  have G3 := Lib.hid g3
  have G4 := Lib.hid g4
  have G5 := Lib.hid g5
  have G6 := Lib.hid g6
  have HR := Lib.hid hr0
  have HC := Lib.hid hc0
  clear h1 h2 g1 g2 g3 g4 g5 g6 hr0 hc0
  go_enter Tryz.func33, Tryz.ntmps33
  go_wp2_with fail
  refine (numbers_any _ _).mono ?_
  rintro e w1 ⟨a, b, rfl, -, hpt, hb1⟩
  have hs1 : w.heap.size + 2 ≤ w1.heap.size := by have := hb1.size; simp at this; omega
  have z1 : w1.heap[w.heap.size + 1]? = some (ctl false false false false false false 0 0 0 0 0 0) := by
    have q := blk_new (w.alloc (ctl false false false false false false 0 0 0 0 0 0)) (ctl false false false false false false 0 0 0 0 0 0)
    rw [show (w.alloc (ctl false false false false false false 0 0 0 0 0 0)).heap.size = w.heap.size + 1 by simp] at q
    exact blk_below q hb1
  have z0 : w1.heap[w.heap.size]? = some (ctl false false false false false false 0 0 0 0 0 0) := blk_below (blk_alloc (blk_new w (ctl false false false false false false 0 0 0 0 0 0)) _) hb1
  have bw1 : Below w.heap.size w w1 := (((Below.refl _ w).alloc (Nat.le_refl _) _).alloc (by simp) _).trans (hb1.mono (by simp; omega))
  have hbne : b ≠ w.heap.size + 1 := by
    rintro rfl
    have := (hpt 0 (by omega)).symm.trans (blk_cell z1 0)
    cases this
  have HP := Lib.hid hpt
  have Z1 := Lib.hid z1
  have Z0 := Lib.hid z0
  have BW1 := Lib.hid bw1
  have NE := Lib.hid hbne
  clear hpt z1 z0 bw1 hb1 hbne
  go_wp2
  go_loopw [8, 18] (fun _ i wr => ∃ k : Nat, k ≤ 6 ∧ i = .int .i64 k ∧ wr.heap[w.heap.size + 1]? = some (ctl false false false false false false (vl k 0) (vl k 1) (vl k 2) (vl k 3) (vl k 4) (vl k 5)) ∧ wr.heap[w.heap.size]? = some (ctl false false false false false false 0 0 0 0 0 0) ∧ (∀ j, j < 6 → wr.cell? ⟨b, j, none⟩ = some (.pointer (some ⟨w.heap.size + 1, 6 + j, none⟩))) ∧ Below w.heap.size w wr) (fun _ i _ => 6 - (intOf i).toNat)
  case atStart => exact ⟨0, by omega, rfl, Z1.out, Z0.out, HP.out, BW1.out⟩
  case round =>
    obtain ⟨j, hj, rfl, z1, z0, hp, hbw⟩ := hrel
    have hsz := hbw.size
    have hgc : w.heap.size + 1 < wr.heap.size := blk_lt z1
    have hn := NE.out
    by_cases hlt : j < 6
    · have f6 := blk_frozen z1 6
      have f7 := blk_frozen z1 7
      have f8 := blk_frozen z1 8
      have f9 := blk_frozen z1 9
      have f10 := blk_frozen z1 10
      have f11 := blk_frozen z1 11
      have c6 : wr.cell? ⟨w.heap.size + 1, 6, none⟩ = some (.int .i64 (vl j 0)) := blk_cell z1 6
      have c7 : wr.cell? ⟨w.heap.size + 1, 7, none⟩ = some (.int .i64 (vl j 1)) := blk_cell z1 7
      have c8 : wr.cell? ⟨w.heap.size + 1, 8, none⟩ = some (.int .i64 (vl j 2)) := blk_cell z1 8
      have c9 : wr.cell? ⟨w.heap.size + 1, 9, none⟩ = some (.int .i64 (vl j 3)) := blk_cell z1 9
      have c10 : wr.cell? ⟨w.heap.size + 1, 10, none⟩ = some (.int .i64 (vl j 4)) := blk_cell z1 10
      have c11 : wr.cell? ⟨w.heap.size + 1, 11, none⟩ = some (.int .i64 (vl j 5)) := blk_cell z1 11
      have hpj := hp j hlt
      have HZ1 := Lib.hid z1
      have HZ0 := Lib.hid z0
      have HPJ := Lib.hid hp
      have HBW := Lib.hid hbw
      have HN := Lib.hid hn
      clear z1 z0 hp hbw hn
      have hjc : j = 0 ∨ j = 1 ∨ j = 2 ∨ j = 3 ∨ j = 4 ∨ j = 5 := by omega
      rcases hjc with rfl | rfl | rfl | rfl | rfl | rfl
      · go_wp2
        go_roundw
        case rel => exact ⟨1, by omega, rfl, blk_put HZ1.out 6 _ rfl, (Below.heap_setCell wr ⟨w.heap.size + 1, 6, none⟩ _ w.heap.size (by simp)).trans HZ0.out, fun i hi => (cell_far (p := ⟨w.heap.size + 1, 6, none⟩) HN.out _).trans (HPJ.out i hi), HBW.out.setCell (by simp) _⟩
        case measure => simp [intOf]
      · go_wp2
        go_roundw
        case rel => exact ⟨2, by omega, rfl, blk_put HZ1.out 7 _ rfl, (Below.heap_setCell wr ⟨w.heap.size + 1, 7, none⟩ _ w.heap.size (by simp)).trans HZ0.out, fun i hi => (cell_far (p := ⟨w.heap.size + 1, 7, none⟩) HN.out _).trans (HPJ.out i hi), HBW.out.setCell (by simp) _⟩
        case measure => simp [intOf]
      · go_wp2
        go_roundw
        case rel => exact ⟨3, by omega, rfl, blk_put HZ1.out 8 _ rfl, (Below.heap_setCell wr ⟨w.heap.size + 1, 8, none⟩ _ w.heap.size (by simp)).trans HZ0.out, fun i hi => (cell_far (p := ⟨w.heap.size + 1, 8, none⟩) HN.out _).trans (HPJ.out i hi), HBW.out.setCell (by simp) _⟩
        case measure => simp [intOf]
      · go_wp2
        go_roundw
        case rel => exact ⟨4, by omega, rfl, blk_put HZ1.out 9 _ rfl, (Below.heap_setCell wr ⟨w.heap.size + 1, 9, none⟩ _ w.heap.size (by simp)).trans HZ0.out, fun i hi => (cell_far (p := ⟨w.heap.size + 1, 9, none⟩) HN.out _).trans (HPJ.out i hi), HBW.out.setCell (by simp) _⟩
        case measure => simp [intOf]
      · go_wp2
        go_roundw
        case rel => exact ⟨5, by omega, rfl, blk_put HZ1.out 10 _ rfl, (Below.heap_setCell wr ⟨w.heap.size + 1, 10, none⟩ _ w.heap.size (by simp)).trans HZ0.out, fun i hi => (cell_far (p := ⟨w.heap.size + 1, 10, none⟩) HN.out _).trans (HPJ.out i hi), HBW.out.setCell (by simp) _⟩
        case measure => simp [intOf]
      · go_wp2
        go_roundw
        case rel => exact ⟨6, by omega, rfl, blk_put HZ1.out 11 _ rfl, (Below.heap_setCell wr ⟨w.heap.size + 1, 11, none⟩ _ w.heap.size (by simp)).trans HZ0.out, fun i hi => (cell_far (p := ⟨w.heap.size + 1, 11, none⟩) HN.out _).trans (HPJ.out i hi), HBW.out.setCell (by simp) _⟩
        case measure => simp [intOf]
    · obtain rfl : j = 6 := by omega
      have HZ1 := Lib.hid z1
      have HZ0 := Lib.hid z0
      have HBW := Lib.hid hbw
      clear z1 z0 hp hbw hn hlt
      go_wp2_with fail
      refine (message_Values.calls k A0 c0 l0 ccName [ageTwo] _ (Kd.C_below HR.out HBW.out) HC.out H1.out).mono ?_
      rintro e w2 ⟨v2, rfl, r2, b2⟩
      obtain ⟨A2, c2, rfl, l2, q2⟩ := Kd.R_reads r2
      have L2 := Lib.hid l2
      have Q2 := Lib.hid q2
      clear r2 l2 q2
      go_wp2_with fail
      refine (message_Parts.calls k A2 c2 [ageTwo] [ageTwo] _ Q2.out L2.out H2.out).mono ?_
      rintro e w3 ⟨v3, rfl, r3, b3⟩
      obtain ⟨A3, c3, rfl, l3, q3⟩ := Kd.R_reads r3
      obtain ⟨ad3, e3, x3⟩ := Kd.at_string q3 0 (by omega) (by decide)
      cases e3
      obtain ⟨g3, rfl⟩ := Kd.R_head r3
      have g3b : w2.heap.size ≤ g3 := Kd.R_base r3 g3 rfl
      have x3' : w3.cell? ⟨g3, 0, none⟩ = some (.string ageTwo) := x3
      have n3 : g3 ≠ w.heap.size + 1 := by have := b2.size; omega
      have b23 : Below w.heap.size w w3 := (HBW.out.trans (b2.mono hsz)).trans (b3.mono (Nat.le_trans hsz b2.size))
      have y1 := blk_below (blk_below HZ1.out b2) b3
      have y0 := blk_below (blk_below HZ0.out b2) b3
      have N3 := Lib.hid n3
      have B3 := Lib.hid b23
      have Y1 := Lib.hid y1
      have Y0 := Lib.hid y0
      have X3 := Lib.hid x3'
      clear x3 x3' n3 b23 y1 y0 r3 l3 q3 b2 b3 g3b
      go_wp2_with fail
      go_loopw [10, 29] (fun _ i wr2 => ∃ k : Nat, k ≤ 1 ∧ i = .int .i64 k ∧ wr2.heap[w.heap.size + 1]? = some (ctl false false false false false false (if k = 0 then -1 else 2) (-1) (-1) (-1) (-1) (-1)) ∧ wr2.heap[w.heap.size]? = some (ctl false false false false false false 0 0 0 0 0 0) ∧ wr2.cell? ⟨g3, 0, none⟩ = some (.string ageTwo) ∧ Below w.heap.size w wr2) (fun _ i _ => 1 - (intOf i).toNat)
      case atStart => exact ⟨0, by omega, rfl, Y1.out, Y0.out, X3.out, B3.out⟩
      case round =>
        obtain ⟨j, hj, rfl, z1, z0, hp, hbw⟩ := hrel
        by_cases hlt : j < 1
        · obtain rfl : j = 0 := by omega
          have HZ1 := Lib.hid z1
          have HZ0 := Lib.hid z0
          have HBW2 := Lib.hid hbw
          have HPH := Lib.hid hp
          clear z1 z0 hbw
          go_wp2_with fail
          refine (told_age k ageTwo _ _ _ 2 (w.heap.size + 1) false false false false false false (-1) (-1) (-1) (-1) (-1) (-1) w _ HZ1.out HBW2.out (by omega) G1.out G2.out G3.out G4.out G5.out G6.out rfl).mono ?_
          rintro e w4 ⟨rfl, t1, t2, t3⟩
          have T1 := Lib.hid t1
          have T2 := Lib.hid t2
          have T3 := Lib.hid t3
          clear t1 t2 t3
          go_wp2_with fail
          go_wp2
          go_roundw
          case rel => exact ⟨1, by omega, rfl, T1.out, (T3.out.2 w.heap.size (blk_lt HZ0.out) (by omega) (by simp)).trans HZ0.out, cell_keep HPH.out T3.out N3.out, T2.out⟩
          case measure => simp [intOf]
        · obtain rfl : j = 1 := by omega
          have c0 : wr.cell? ⟨w.heap.size + 1, 0, none⟩ = some (.bool false) := blk_cell z1 0
          have c1 : wr.cell? ⟨w.heap.size + 1, 1, none⟩ = some (.bool false) := blk_cell z1 1
          have c2 : wr.cell? ⟨w.heap.size + 1, 2, none⟩ = some (.bool false) := blk_cell z1 2
          have c3 : wr.cell? ⟨w.heap.size + 1, 3, none⟩ = some (.bool false) := blk_cell z1 3
          have c4 : wr.cell? ⟨w.heap.size + 1, 4, none⟩ = some (.bool false) := blk_cell z1 4
          have c5 : wr.cell? ⟨w.heap.size + 1, 5, none⟩ = some (.bool false) := blk_cell z1 5
          have c6 : wr.cell? ⟨w.heap.size + 1, 6, none⟩ = some (.int .i64 2) := blk_cell z1 6
          have c7 : wr.cell? ⟨w.heap.size + 1, 7, none⟩ = some (.int .i64 (-1)) := blk_cell z1 7
          have c8 : wr.cell? ⟨w.heap.size + 1, 8, none⟩ = some (.int .i64 (-1)) := blk_cell z1 8
          have c9 : wr.cell? ⟨w.heap.size + 1, 9, none⟩ = some (.int .i64 (-1)) := blk_cell z1 9
          have c10 : wr.cell? ⟨w.heap.size + 1, 10, none⟩ = some (.int .i64 (-1)) := blk_cell z1 10
          have c11 : wr.cell? ⟨w.heap.size + 1, 11, none⟩ = some (.int .i64 (-1)) := blk_cell z1 11
          have d0 : wr.cell? ⟨w.heap.size, 0, none⟩ = some (.bool false) := blk_cell z0 0
          have d1 : wr.cell? ⟨w.heap.size, 1, none⟩ = some (.bool false) := blk_cell z0 1
          have d2 : wr.cell? ⟨w.heap.size, 2, none⟩ = some (.bool false) := blk_cell z0 2
          have d3 : wr.cell? ⟨w.heap.size, 3, none⟩ = some (.bool false) := blk_cell z0 3
          have d4 : wr.cell? ⟨w.heap.size, 4, none⟩ = some (.bool false) := blk_cell z0 4
          have d5 : wr.cell? ⟨w.heap.size, 5, none⟩ = some (.bool false) := blk_cell z0 5
          have d6 : wr.cell? ⟨w.heap.size, 6, none⟩ = some (.int .i64 0) := blk_cell z0 6
          have d7 : wr.cell? ⟨w.heap.size, 7, none⟩ = some (.int .i64 0) := blk_cell z0 7
          have d8 : wr.cell? ⟨w.heap.size, 8, none⟩ = some (.int .i64 0) := blk_cell z0 8
          have d9 : wr.cell? ⟨w.heap.size, 9, none⟩ = some (.int .i64 0) := blk_cell z0 9
          have d10 : wr.cell? ⟨w.heap.size, 10, none⟩ = some (.int .i64 0) := blk_cell z0 10
          have d11 : wr.cell? ⟨w.heap.size, 11, none⟩ = some (.int .i64 0) := blk_cell z0 11
          have f0 := blk_frozen z0 0
          have f1 := blk_frozen z0 1
          have f2 := blk_frozen z0 2
          have f3 := blk_frozen z0 3
          have f4 := blk_frozen z0 4
          have f5 := blk_frozen z0 5
          have f6 := blk_frozen z0 6
          have f7 := blk_frozen z0 7
          have f8 := blk_frozen z0 8
          have f9 := blk_frozen z0 9
          have f10 := blk_frozen z0 10
          have f11 := blk_frozen z0 11
          have HZ1 := Lib.hid z1
          have HZ0 := Lib.hid z0
          have HBW2 := Lib.hid hbw
          clear z1 z0 hp hbw
          go_wp2_with fail
          have q : _ = some (ctl false false false false false false 2 (-1) (-1) (-1) (-1) (-1)) := (blk_put (blk_put (blk_put (blk_put (blk_put (blk_put (blk_put (blk_put (blk_put (blk_put (blk_put (blk_put HZ0.out 0 (.bool false) rfl) 1 (.bool false) rfl) 2 (.bool false) rfl) 3 (.bool false) rfl) 4 (.bool false) rfl) 5 (.bool false) rfl) 6 (.int .i64 2) rfl) 7 (.int .i64 (-1)) rfl) 8 (.int .i64 (-1)) rfl) 9 (.int .i64 (-1)) rfl) 10 (.int .i64 (-1)) rfl) 11 (.int .i64 (-1)) rfl)
          have bb := ((((((((((((HBW2.out.setCell (p := ⟨w.heap.size, 0, none⟩) (Nat.le_refl _) (.bool false)).setCell (p := ⟨w.heap.size, 1, none⟩) (Nat.le_refl _) (.bool false)).setCell (p := ⟨w.heap.size, 2, none⟩) (Nat.le_refl _) (.bool false)).setCell (p := ⟨w.heap.size, 3, none⟩) (Nat.le_refl _) (.bool false)).setCell (p := ⟨w.heap.size, 4, none⟩) (Nat.le_refl _) (.bool false)).setCell (p := ⟨w.heap.size, 5, none⟩) (Nat.le_refl _) (.bool false)).setCell (p := ⟨w.heap.size, 6, none⟩) (Nat.le_refl _) (.int .i64 2)).setCell (p := ⟨w.heap.size, 7, none⟩) (Nat.le_refl _) (.int .i64 (-1))).setCell (p := ⟨w.heap.size, 8, none⟩) (Nat.le_refl _) (.int .i64 (-1))).setCell (p := ⟨w.heap.size, 9, none⟩) (Nat.le_refl _) (.int .i64 (-1))).setCell (p := ⟨w.heap.size, 10, none⟩) (Nat.le_refl _) (.int .i64 (-1))).setCell (p := ⟨w.heap.size, 11, none⟩) (Nat.le_refl _) (.int .i64 (-1)))
          revert q bb
          generalize ((((((((((((wr.setCell ⟨w.heap.size, 0, none⟩ (Value.bool false)).setCell ⟨w.heap.size, 1, none⟩ (Value.bool false)).setCell ⟨w.heap.size, 2, none⟩ (Value.bool false)).setCell ⟨w.heap.size, 3, none⟩ (Value.bool false)).setCell ⟨w.heap.size, 4, none⟩ (Value.bool false)).setCell ⟨w.heap.size, 5, none⟩ (Value.bool false)).setCell ⟨w.heap.size, 6, none⟩ (Value.int IntKind.i64 2)).setCell ⟨w.heap.size, 7, none⟩ (Value.int IntKind.i64 (-1))).setCell ⟨w.heap.size, 8, none⟩ (Value.int IntKind.i64 (-1))).setCell ⟨w.heap.size, 9, none⟩ (Value.int IntKind.i64 (-1))).setCell ⟨w.heap.size, 10, none⟩ (Value.int IntKind.i64 (-1))).setCell ⟨w.heap.size, 11, none⟩ (Value.int IntKind.i64 (-1))) = W2
          intro q bb
          have e0 : W2.cell? ⟨w.heap.size, 0, none⟩ = some (.bool false) := blk_cell q 0
          have e1 : W2.cell? ⟨w.heap.size, 1, none⟩ = some (.bool false) := blk_cell q 1
          have e2 : W2.cell? ⟨w.heap.size, 2, none⟩ = some (.bool false) := blk_cell q 2
          have e3 : W2.cell? ⟨w.heap.size, 3, none⟩ = some (.bool false) := blk_cell q 3
          have e4 : W2.cell? ⟨w.heap.size, 4, none⟩ = some (.bool false) := blk_cell q 4
          have e5 : W2.cell? ⟨w.heap.size, 5, none⟩ = some (.bool false) := blk_cell q 5
          have e6 : W2.cell? ⟨w.heap.size, 6, none⟩ = some (.int .i64 2) := blk_cell q 6
          have e7 : W2.cell? ⟨w.heap.size, 7, none⟩ = some (.int .i64 (-1)) := blk_cell q 7
          have e8 : W2.cell? ⟨w.heap.size, 8, none⟩ = some (.int .i64 (-1)) := blk_cell q 8
          have e9 : W2.cell? ⟨w.heap.size, 9, none⟩ = some (.int .i64 (-1)) := blk_cell q 9
          have e10 : W2.cell? ⟨w.heap.size, 10, none⟩ = some (.int .i64 (-1)) := blk_cell q 10
          have e11 : W2.cell? ⟨w.heap.size, 11, none⟩ = some (.int .i64 (-1)) := blk_cell q 11
          refine bodyPost_ret (by simp [results, Tryz.func33, go_sem, e0, e1, e2, e3, e4, e5, e6, e7, e8, e9, e10, e11]) rfl ⟨rfl, bb⟩
end Go.Proofs.YthgjnpmebjlecaaGreatDoor.Ext
/- The machine's side, printed by a program of this session: each Go function named below comes to the Lean function of its name; conditions: those of each theorem. -/
namespace Go.Proofs.YthgjnpmebjlecaaGreatDoor.P
open Go.RowKit Go.Proofs.YthgjnpmebjlecaaGreatDoorW.PrintWords Go.Proofs.YthgjnpmebjlecaaGreatDoorW.PrintLast Go.Proofs.YthgjnpmebjlecaaGreatDoorW.PrintMore
attribute [local go_sem] max2_int min2_int max_two min_two max_three min_three max_four min_four   -- for this text's walks alone
set_option linter.unusedVariables false
set_option linter.unusedSimpArgs false

/-! ### slices_Contains_string_string: function 65 -/
def slices_Contains_string_string.f (k : Nat) (l0 : List ByteArray) (a1 : ByteArray) : Option (Bool) := (slices_Index_string_string.f k l0 a1).bind fun t291 => (some (decide (t291 ≥ 0)))
theorem slices_Contains_string_string.mono : ∀ a0 a1 k, LeO (slices_Contains_string_string.f k a0 a1) (slices_Contains_string_string.f (k + 1) a0 a1) := by
  intro a0 a1 k
  unfold slices_Contains_string_string.f
  repeat' first
      | (with_reducible exact slices_Index_string_string.mono _ _ _)
      | (with_reducible exact LeO.refl _)
      | (with_reducible exact LeO.none _)
      | (with_reducible refine LeO.ite ?_ ?_)
      | (with_reducible refine LeO.bind ?_ (fun _ => ?_))
      | exact slices_Index_string_string.mono _ _ _
      | exact LeO.none _
      | refine LeO.ite ?_ ?_
      | refine LeO.bind ?_ (fun _ => ?_)
set_option maxHeartbeats 8000000 in
set_option maxRecDepth 100000 in
theorem slices_Contains_string_string.calls (k : Nat) (A0 : Option Addr) (c0 : Nat) (l0 : List ByteArray) (a1 : ByteArray) (r : Bool) (w : World) (hr0 : Kd.C Kd.string w A0 l0.length l0) (hc0 : l0.length ≤ c0) (h : slices_Contains_string_string.f k l0 a1 = some r) :
    Calls Tryz.prog 65 #[.slice A0 l0.length c0, .string a1] w fun e w' => e = .returned (.bool r) ∧ Drawn0 w w' := by
  have HR0 := Aside0.mk hr0
  have HC0 := Aside0.mk hc0
  clear hr0 hc0
  have H : ((slices_Index_string_string.f k l0 a1).bind fun t291 => (some (decide (t291 ≥ 0)))) = some r := h
  clear h
  replace H := Option.bind_eq_some_iff.mp H
  obtain ⟨t291, A30, H⟩ := H
  replace H : (some (decide (t291 ≥ 0))) = some r := H
  have A3 := Aside0.mk A30
  clear A30
  obtain rfl := Option.some.inj H
  go_enter Tryz.func65, Tryz.ntmps65
  go_wp2_with (first | ((with_reducible refine gate_callee (f := 88) rfl ?_); refine goesL_ (some 7) rfl rfl Tryz.func88 (by kernel_rfl) rfl #[.slice A0 l0.length c0, .string a1] rfl (by (try simp only [List.map_toArray, List.map_cons, List.map_nil]); first | done | rfl | (simp only [List.length_drop, List.length_take]; rfl)) ?_; (with_reducible refine (slices_Index_string_string.calls k _ _ l0 a1 t291 _ ?side1 ?side2 A3.out).mono ?_); (case side1 => repeat (first | exact HR0.out | (with_reducible refine Kd.C_alloc ?_ _) | (with_reducible refine Kd.C_drewN ?_ _) | (with_reducible refine Kd.C_drew ?_))); (case side2 => exact HC0.out); rintro e w' ⟨rfl, ⟨nd, rfl⟩⟩; refine ⟨_, rfl, ?_⟩))
  go_ret
  exact ⟨by first | rfl | (simp; done) | (simp [*]; done), by repeat (first | exact Drawn0.refl _ | apply Drawn0.step)⟩

end Go.Proofs.YthgjnpmebjlecaaGreatDoor.P
/- kit.Rising of no strings is no strings, and cache.vary of a response without the header 'vary' tells no names; conditions: those that stand in the theorems. -/
namespace Go.Proofs.YthgjnpmebjlecaaGreatDoor.Ext
open Go.RowKit Go.Proofs.YthgjnpmebjlecaaGreatDoorW.PrintWords Go.Proofs.YthgjnpmebjlecaaGreatDoorW.PrintLast Go.Proofs.YthgjnpmebjlecaaGreatDoorW.PrintMore Go.Proofs.YthgjnpmebjlecaaGreatDoor.P

def varyName : ByteArray := ⟨#[118, 97, 114, 121]⟩
set_option maxHeartbeats 4000000 in
set_option maxRecDepth 100000 in
theorem rising_none (A : Option Addr) (c : Nat) (w : World) : Calls Tryz.prog 66 #[.slice A 0 c] w fun e w' => ∃ (A' : Option Addr) (c' : Nat), e = .returned (.slice A' 0 c') ∧ Below w.heap.size w w' := by
  go_enter Tryz.func66, Tryz.ntmps66
  go_wp2_with fail
  have H : Calls Tryz.prog 101 #[.slice A 0 c] w fun e w' => ∃ (A' : Option Addr) (c' : Nat), e = .returned (.slice A' 0 c') ∧ Below w.heap.size w w' := by
    cases A with
    | none => exact (Tryz.slices_Clone_string_nil 0 c w).mono fun e w' ⟨he, hw⟩ => ⟨none, 0, he, by subst hw; exact Below.refl _ _⟩
    | some a =>
      refine (Tryz.slices_Clone_string_zero a c w).mono fun e w' ⟨v, he, ho, _, hb⟩ => ?_
      obtain ⟨A', c', hv⟩ := own_slice ho
      exact ⟨A', c', by rw [he, hv], hb⟩
  refine H.mono ?_
  rintro e w1 ⟨A1, c1, rfl, hb1⟩
  go_wp2_with fail
  refine (Tryz.slices_Sort_string_none A1 c1 w1).mono ?_
  rintro e w2 ⟨rfl, rfl⟩
  go_wp2_with fail
  refine (Tryz.slices_Compact_string_empty A1 c1 w2).mono ?_
  rintro e w3 ⟨rfl, rfl⟩
  go_wp2_with fail
  go_ret
  exact ⟨A1, c1, rfl, hb1⟩
set_option maxHeartbeats 4000000 in
set_option maxRecDepth 100000 in
theorem vary_none (st : Int) (A0 : Option Addr) (c0 : Nat) (l0 : List S49) (body : ByteArray) (w : World) (hr0 : Kd.C k49 w A0 l0.length l0) (hc0 : l0.length ≤ c0) (k : Nat)
    (h1 : message_Values.f k l0 varyName = some []) (h2 : message_Parts.f k [] = some []) (h3 : slices_Contains_string_string.f k [] ⟨#[42]⟩ = some false) :
    Calls Tryz.prog 39 #[.agg #[.int .i64 st, .slice A0 l0.length c0, .string body]] w fun e w' => ∃ (A' : Option Addr) (c' : Nat), e = .returned (.tuple #[.slice A' 0 c', .bool false, .int .i64 0]) ∧ Below w.heap.size w w' := by
  have H1 := Lib.hid h1
  have H2 := Lib.hid h2
  have H3 := Lib.hid h3
  have HR := Lib.hid hr0
  have HC := Lib.hid hc0
  clear h1 h2 h3 hr0 hc0
  go_enter Tryz.func39, Tryz.ntmps39
  go_wp2_with fail
  refine (message_Values.calls k A0 c0 l0 varyName [] _ (Kd.C_below HR.out ((Below.refl _ w).alloc (Nat.le_refl _) _))  HC.out H1.out).mono ?_
  rintro e w2 ⟨v2, rfl, r2, b2⟩
  obtain ⟨A2, c2, rfl, l2, q2⟩ := Kd.R_reads r2
  have L2 := Lib.hid l2
  have Q2 := Lib.hid q2
  clear r2 l2 q2
  go_wp2_with fail
  refine (message_Parts.calls k A2 c2 [] [] _ Q2.out L2.out H2.out).mono ?_
  rintro e w3 ⟨v3, rfl, r3, b3⟩
  obtain ⟨A3, c3, rfl, l3, q3⟩ := Kd.R_reads r3
  have L3 := Lib.hid l3
  have Q3 := Lib.hid q3
  clear r3 l3 q3
  go_wp2_with fail
  have b23 : Below w.heap.size w w3 := (((Below.refl _ w).alloc (Nat.le_refl _) _).trans (b2.mono (by simp))).trans (b3.mono (by have := b2.size; simp at this; omega))
  have B3 := Lib.hid b23
  clear b23 b2 b3
  go_loopw [6, 7, 14] (fun _ _ i wr => i = .int .i64 0 ∧ wr = w3) (fun _ _ _ _ => 0)
  case atStart => exact ⟨rfl, rfl⟩
  case round =>
    obtain ⟨rfl, rfl⟩ := hrel
    go_wp2_with fail
    refine (slices_Contains_string_string.calls k A3 c3 [] ⟨#[42]⟩ false _ Q3.out L3.out H3.out).mono ?_
    rintro e w4 ⟨rfl, d4⟩
    have b4 := B3.out.trans (d4.below.mono B3.out.size)
    have B4 := Lib.hid b4
    clear b4 d4
    go_wp2_with fail
    refine (rising_none A3 c3 _).mono ?_
    rintro e w5 ⟨A5, c5, rfl, b5⟩
    have b6 := B4.out.trans (b5.mono B4.out.size)
    have B6 := Lib.hid b6
    clear b6 b5
    go_wp2_with fail
    go_ret3
    exact ⟨A5, c5, rfl, B6.out⟩
end Go.Proofs.YthgjnpmebjlecaaGreatDoor.Ext
/- The machine's side, printed by a program of this session: each Go function named below comes to the Lean function of its name; conditions: those of each theorem. -/
namespace Go.Proofs.YthgjnpmebjlecaaGreatDoor.P
open Go.RowKit Go.Proofs.YthgjnpmebjlecaaGreatDoorW.PrintWords Go.Proofs.YthgjnpmebjlecaaGreatDoorW.PrintLast Go.Proofs.YthgjnpmebjlecaaGreatDoorW.PrintMore
attribute [local go_sem] max2_int min2_int max_two min_two max_three min_three max_four min_four   -- for this text's walks alone
set_option linter.unusedVariables false
set_option linter.unusedSimpArgs false

/-! ### message_isRange: function 57 -/
def message_isRange.l0 : Nat → ByteArray → Int → Int → Int → Int → Option (Bool)
  | 0, _, _, _, _, _ => none
  | k + 1, x0, x1, x2, x9, x10 => if x10 < x9 then (if 0 ≤ x10 then (if x10 < (x0.size : Int) then (if (bt x0 x10) < x1 then (some false) else (if (bt x0 x10) > x2 then (some false) else (message_isRange.l0 k x0 x1 x2 x9 (wrap64 (x10 + 1))))) else (none)) else (none)) else (some true)
def message_isRange.f (k : Nat) (a0 : ByteArray) (a1 : Int) (a2 : Int) : Option (Bool) := message_isRange.l0 k a0 a1 a2 (a0.size : Int) 0
theorem message_isRange.mono_l : ∀ k, (∀ y0 y1 y2 y3 y4, LeO (message_isRange.l0 k y0 y1 y2 y3 y4) (message_isRange.l0 (k + 1) y0 y1 y2 y3 y4))
  | 0 => fun _ _ _ _ _ r h => by simp [message_isRange.l0] at h
  | k + 1 => by
    have ih0 := message_isRange.mono_l k
    · intro y0 y1 y2 y3 y4
      unfold message_isRange.l0
      repeat' first
      | (with_reducible exact ih0 _ _ _ _ _)
      | (with_reducible exact LeO.refl _)
      | (with_reducible exact LeO.none _)
      | (with_reducible refine LeO.ite ?_ ?_)
      | (with_reducible refine LeO.bind ?_ (fun _ => ?_))
      | exact ih0 _ _ _ _ _
      | exact LeO.none _
      | refine LeO.ite ?_ ?_
      | refine LeO.bind ?_ (fun _ => ?_)
theorem message_isRange.mono : ∀ a0 a1 a2 k, LeO (message_isRange.f k a0 a1 a2) (message_isRange.f (k + 1) a0 a1 a2) := by
  intro a0 a1 a2 k
  have ih0 := message_isRange.mono_l k
  unfold message_isRange.f
  repeat' first
      | (with_reducible exact ih0 _ _ _ _ _)
      | (with_reducible exact LeO.refl _)
      | (with_reducible exact LeO.none _)
      | (with_reducible refine LeO.ite ?_ ?_)
      | (with_reducible refine LeO.bind ?_ (fun _ => ?_))
      | exact ih0 _ _ _ _ _
      | exact LeO.none _
      | refine LeO.ite ?_ ?_
      | refine LeO.bind ?_ (fun _ => ?_)
set_option maxHeartbeats 8000000 in
set_option maxRecDepth 100000 in
theorem message_isRange.calls (k : Nat) (a0 : ByteArray) (a1 : Int) (a2 : Int) (r : Bool) (w : World) (h : message_isRange.f k a0 a1 a2 = some r) :
    Calls Tryz.prog 57 #[.string a0, .int .u8 a1, .int .u8 a2] w fun e w' => e = .returned (.bool r) ∧ Drawn0 w w' := by
  have H : (message_isRange.l0 k a0 a1 a2 (a0.size : Int) 0) = some r := h
  clear h
  have H' := Aside0.mk H
  clear H
  go_enter Tryz.func57, Tryz.ntmps57
  go_wp2
  go_loopg [10] k (fun kq v10 w' => ∃ (x10_1 : Int), v10 = .int .i64 x10_1 ∧ Aside0 (message_isRange.l0 kq a0 a1 a2 (a0.size : Int) x10_1 = some r) ∧ Aside0 (kq ≤ k) ∧ Drawn0 w w')
  case atStart => exact ⟨(0), (by first | rfl | (simp; done) | (simp [*]; done)), H', ⟨Nat.le_refl _⟩, by repeat (first | exact Drawn0.refl _ | apply Drawn0.step)⟩
  case round =>
    clear H'
    try clear p2
    obtain ⟨x10_1, rfl, HA, HK1, ⟨m1, rfl⟩⟩ := hrel
    cases gk with
    | zero => exact absurd HA.out (by simp [message_isRange.l0])
    | succ k1 =>
      have H := HA.out
      clear HA
      simp only [message_isRange.l0] at H
      by_cases c4 : x10_1 < (a0.size : Int)
      · rw [if_pos c4] at H
        have c4b0 : decide (x10_1 < (a0.size : Int)) = true := decide_eq_true c4
        clear c4
        by_cases c5 : 0 ≤ x10_1
        · rw [if_pos c5] at H
          have c5b0 : decide (0 ≤ x10_1) = true := decide_eq_true c5
          clear c5
          by_cases c6 : x10_1 < (a0.size : Int)
          · rw [if_pos c6] at H
            have c6b0 : decide (x10_1 < (a0.size : Int)) = true := decide_eq_true c6
            clear c6
            by_cases c8 : (bt a0 x10_1) < a1
            · rw [if_pos c8] at H
              have c8b0 : decide ((bt a0 x10_1) < a1) = true := decide_eq_true c8
              clear c8
              obtain rfl := Option.some.inj H
              have p7 : 0 ≤ (x10_1 : Int) := of_decide_eq_true (by first | (with_reducible assumption) | assumption)
              have q7 : x10_1 < (a0.size : Int) := of_decide_eq_true (by first | (with_reducible assumption) | assumption)
              have hx7 := bt_at a0 x10_1
              replace p7 := eq_true p7
              replace q7 := eq_true q7
              go_wp2
              go_ret
              exact ⟨by first | rfl | (simp; done) | (simp [*]; done), by repeat (first | exact Drawn0.refl _ | apply Drawn0.step)⟩
            · rw [if_neg c8] at H
              have c8b0 : decide ((bt a0 x10_1) < a1) = false := decide_eq_false c8
              clear c8
              by_cases c10 : (bt a0 x10_1) > a2
              · rw [if_pos c10] at H
                have c10b0 : decide (a2 < (bt a0 x10_1)) = true := decide_eq_true c10
                clear c10
                obtain rfl := Option.some.inj H
                have p7 : 0 ≤ (x10_1 : Int) := of_decide_eq_true (by first | (with_reducible assumption) | assumption)
                have q7 : x10_1 < (a0.size : Int) := of_decide_eq_true (by first | (with_reducible assumption) | assumption)
                have hx7 := bt_at a0 x10_1
                replace p7 := eq_true p7
                replace q7 := eq_true q7
                have p9 : 0 ≤ (x10_1 : Int) := of_decide_eq_true (by first | (with_reducible assumption) | assumption)
                have q9 : x10_1 < (a0.size : Int) := of_decide_eq_true (by first | (with_reducible assumption) | assumption)
                have hx9 := bt_at a0 x10_1
                replace p9 := eq_true p9
                replace q9 := eq_true q9
                go_wp2
                go_ret
                exact ⟨by first | rfl | (simp; done) | (simp [*]; done), by repeat (first | exact Drawn0.refl _ | apply Drawn0.step)⟩
              · rw [if_neg c10] at H
                have c10b0 : decide (a2 < (bt a0 x10_1)) = false := decide_eq_false c10
                clear c10
                have H' := Aside0.mk H
                clear H
                have p7 : 0 ≤ (x10_1 : Int) := of_decide_eq_true (by first | (with_reducible assumption) | assumption)
                have q7 : x10_1 < (a0.size : Int) := of_decide_eq_true (by first | (with_reducible assumption) | assumption)
                have hx7 := bt_at a0 x10_1
                replace p7 := eq_true p7
                replace q7 := eq_true q7
                have p9 : 0 ≤ (x10_1 : Int) := of_decide_eq_true (by first | (with_reducible assumption) | assumption)
                have q9 : x10_1 < (a0.size : Int) := of_decide_eq_true (by first | (with_reducible assumption) | assumption)
                have hx9 := bt_at a0 x10_1
                replace p9 := eq_true p9
                replace q9 := eq_true q9
                go_wp2
                go_roundg k1
                case measure => have := HK1.out; omega
                case rel => exact ⟨(wrap64 (x10_1 + 1)), (by first | rfl | (simp; done) | (simp [*]; done)), H', ⟨by have := HK1.out; omega⟩, by repeat (first | exact Drawn0.refl _ | apply Drawn0.step)⟩
          · rw [if_neg c6] at H
            exact absurd H (by simp)
        · rw [if_neg c5] at H
          exact absurd H (by simp)
      · rw [if_neg c4] at H
        have c4b0 : decide (x10_1 < (a0.size : Int)) = false := decide_eq_false c4
        clear c4
        obtain rfl := Option.some.inj H
        go_wp2
        go_ret
        exact ⟨by first | rfl | (simp; done) | (simp [*]; done), by repeat (first | exact Drawn0.refl _ | apply Drawn0.step)⟩

end Go.Proofs.YthgjnpmebjlecaaGreatDoor.P
/- The machine's side, printed by a program of this session: each Go function named below comes to the Lean function of its name; conditions: those of each theorem. -/
namespace Go.Proofs.YthgjnpmebjlecaaGreatDoor.P
open Go.RowKit Go.Proofs.YthgjnpmebjlecaaGreatDoorW.PrintWords Go.Proofs.YthgjnpmebjlecaaGreatDoorW.PrintLast Go.Proofs.YthgjnpmebjlecaaGreatDoorW.PrintMore
attribute [local go_sem] max2_int min2_int max_two min_two max_three min_three max_four min_four   -- for this text's walks alone
set_option linter.unusedVariables false
set_option linter.unusedSimpArgs false

/-! ### message_IsField: function 52 -/
def message_IsField.f (k : Nat) (a0 : ByteArray) : Option (Bool) := if (a0.size : Int) ≤ 2000 then ((message_isRange.f k a0 32 126).bind fun t248 => (if t248 = true then ((Ext.strings_Trim.f a0 (⟨#[32]⟩ : ByteArray)).bind fun t249 => (some (t249.toList == a0.toList))) else (some false))) else (some false)
theorem message_IsField.mono : ∀ a0 k, LeO (message_IsField.f k a0) (message_IsField.f (k + 1) a0) := by
  intro a0 k
  unfold message_IsField.f
  repeat' first
      | (with_reducible exact message_isRange.mono _ _ _ _)
      | (with_reducible exact LeO.refl _)
      | (with_reducible exact LeO.none _)
      | (with_reducible refine LeO.ite ?_ ?_)
      | (with_reducible refine LeO.bind ?_ (fun _ => ?_))
      | exact message_isRange.mono _ _ _ _
      | exact LeO.none _
      | refine LeO.ite ?_ ?_
      | refine LeO.bind ?_ (fun _ => ?_)
set_option maxHeartbeats 8000000 in
set_option maxRecDepth 100000 in
theorem message_IsField.calls (k : Nat) (a0 : ByteArray) (r : Bool) (w : World) (h : message_IsField.f k a0 = some r) :
    Calls Tryz.prog 52 #[.string a0] w fun e w' => e = .returned (.bool r) ∧ Drawn0 w w' := by
  have H : (if (a0.size : Int) ≤ 2000 then ((message_isRange.f k a0 32 126).bind fun t248 => (if t248 = true then ((Ext.strings_Trim.f a0 (⟨#[32]⟩ : ByteArray)).bind fun t249 => (some (t249.toList == a0.toList))) else (some false))) else (some false)) = some r := h
  clear h
  by_cases c2 : (a0.size : Int) ≤ 2000
  · rw [if_pos c2] at H
    have c2b0 : decide ((a0.size : Int) ≤ 2000) = true := decide_eq_true c2
    have c2b1 : decide (a0.size ≤ 2000) = true := decide_eq_true (by omega)
    clear c2
    replace H := Option.bind_eq_some_iff.mp H
    obtain ⟨t248, A30, H⟩ := H
    replace H : (if t248 = true then ((Ext.strings_Trim.f a0 (⟨#[32]⟩ : ByteArray)).bind fun t249 => (some (t249.toList == a0.toList))) else (some false)) = some r := H
    have A3 := Aside0.mk A30
    clear A30
    by_cases c4 : t248 = true
    · subst c4
      have H1 : ((Ext.strings_Trim.f a0 (⟨#[32]⟩ : ByteArray)).bind fun t249 => (some (t249.toList == a0.toList))) = some r := by rw [if_pos rfl] at H; exact H
      clear H
      have H := H1
      clear H1
      replace H := Option.bind_eq_some_iff.mp H
      obtain ⟨t249, A50, H⟩ := H
      replace H : (some (t249.toList == a0.toList)) = some r := H
      have A5 := Aside0.mk A50
      clear A50
      obtain rfl := Option.some.inj H
      go_enter Tryz.func52, Tryz.ntmps52
      go_wp2_with (first | (go_at_call 57; (with_reducible refine (message_isRange.calls k a0 32 126 true _ A3.out).mono ?_); rintro e w' ⟨rfl, ⟨nd, rfl⟩⟩) | (go_at_call 84; (with_reducible refine (Ext.strings_Trim.calls a0 (⟨#[32]⟩ : ByteArray) t249 _ A5.out).mono ?_); rintro e w' ⟨rfl, ⟨nd, rfl⟩⟩))
      go_ret
      exact ⟨by first | rfl | (simp; done) | (simp [*]; done), by repeat (first | exact Drawn0.refl _ | apply Drawn0.step)⟩
    · replace c4 := Bool.eq_false_iff.mpr c4
      subst c4
      have H1 : (some false) = some r := by rw [if_neg (show ¬ (false = true) by decide)] at H; exact H
      clear H
      have H := H1
      clear H1
      obtain rfl := Option.some.inj H
      go_enter Tryz.func52, Tryz.ntmps52
      go_wp2_with (first | (go_at_call 57; (with_reducible refine (message_isRange.calls k a0 32 126 false _ A3.out).mono ?_); rintro e w' ⟨rfl, ⟨nd, rfl⟩⟩))
      go_ret
      exact ⟨by first | rfl | (simp; done) | (simp [*]; done), by repeat (first | exact Drawn0.refl _ | apply Drawn0.step)⟩
  · rw [if_neg c2] at H
    have c2b0 : decide ((a0.size : Int) ≤ 2000) = false := decide_eq_false c2
    have c2b1 : decide (a0.size ≤ 2000) = false := decide_eq_false (by omega)
    clear c2
    obtain rfl := Option.some.inj H
    go_enter Tryz.func52, Tryz.ntmps52
    go_wp2
    go_ret
    exact ⟨by first | rfl | (simp; done) | (simp [*]; done), by repeat (first | exact Drawn0.refl _ | apply Drawn0.step)⟩

end Go.Proofs.YthgjnpmebjlecaaGreatDoor.P
/- The machine's side, printed by a program of this session: each Go function named below comes to the Lean function of its name; conditions: those of each theorem. -/
namespace Go.Proofs.YthgjnpmebjlecaaGreatDoor.P
open Go.RowKit Go.Proofs.YthgjnpmebjlecaaGreatDoorW.PrintWords Go.Proofs.YthgjnpmebjlecaaGreatDoorW.PrintLast Go.Proofs.YthgjnpmebjlecaaGreatDoorW.PrintMore
attribute [local go_sem] max2_int min2_int max_two min_two max_three min_three max_four min_four   -- for this text's walks alone
set_option linter.unusedVariables false
set_option linter.unusedSimpArgs false

/-! ### message_CheckHeaders: function 32 -/
def message_CheckHeaders.l0 : Nat → List (S49) → Int → Int → Option (Int)
  | 0, _, _, _ => none
  | k + 1, x8, x9, x10 => if x10 < x9 then (if 0 ≤ x10 then (if x10 < (x8.length : Int) then ((message_IsToken.f k ((rd_T49 x8 x10).f0)).bind fun t252 => (if t252 = true then ((message_IsField.f k ((rd_T49 x8 x10).f1)).bind fun t253 => (if t253 = true then (message_CheckHeaders.l0 k x8 x9 (wrap64 (x10 + 1))) else (some 3))) else (some 5))) else (none)) else (none)) else (some 0)
def message_CheckHeaders.f (k : Nat) (l0 : List (S49)) : Option (Int) := if (l0.length : Int) > 50 then (some 2) else (message_CheckHeaders.l0 k l0 (l0.length : Int) 0)
theorem message_CheckHeaders.mono_l : ∀ k, (∀ y0 y1 y2, LeO (message_CheckHeaders.l0 k y0 y1 y2) (message_CheckHeaders.l0 (k + 1) y0 y1 y2))
  | 0 => fun _ _ _ r h => by simp [message_CheckHeaders.l0] at h
  | k + 1 => by
    have ih0 := message_CheckHeaders.mono_l k
    · intro y0 y1 y2
      unfold message_CheckHeaders.l0
      repeat' first
      | (with_reducible exact ih0 _ _ _)
      | (with_reducible exact message_IsField.mono _ _)
      | (with_reducible exact message_IsToken.mono _ _)
      | (with_reducible exact LeO.refl _)
      | (with_reducible exact LeO.none _)
      | (with_reducible refine LeO.ite ?_ ?_)
      | (with_reducible refine LeO.bind ?_ (fun _ => ?_))
      | exact ih0 _ _ _
      | exact message_IsField.mono _ _
      | exact message_IsToken.mono _ _
      | exact LeO.none _
      | refine LeO.ite ?_ ?_
      | refine LeO.bind ?_ (fun _ => ?_)
theorem message_CheckHeaders.mono : ∀ a0 k, LeO (message_CheckHeaders.f k a0) (message_CheckHeaders.f (k + 1) a0) := by
  intro a0 k
  have ih0 := message_CheckHeaders.mono_l k
  unfold message_CheckHeaders.f
  repeat' first
      | (with_reducible exact ih0 _ _ _)
      | (with_reducible exact message_IsField.mono _ _)
      | (with_reducible exact message_IsToken.mono _ _)
      | (with_reducible exact LeO.refl _)
      | (with_reducible exact LeO.none _)
      | (with_reducible refine LeO.ite ?_ ?_)
      | (with_reducible refine LeO.bind ?_ (fun _ => ?_))
      | exact ih0 _ _ _
      | exact message_IsField.mono _ _
      | exact message_IsToken.mono _ _
      | exact LeO.none _
      | refine LeO.ite ?_ ?_
      | refine LeO.bind ?_ (fun _ => ?_)
set_option maxHeartbeats 8000000 in
set_option maxRecDepth 100000 in
theorem message_CheckHeaders.calls (k : Nat) (A0 : Option Addr) (c0 : Nat) (l0 : List (S49)) (r : Int) (w : World) (hr0 : Kd.C k49 w A0 l0.length l0) (hc0 : l0.length ≤ c0) (h : message_CheckHeaders.f k l0 = some r) :
    Calls Tryz.prog 32 #[.slice A0 l0.length c0] w fun e w' => e = .returned (.int .i64 r) ∧ Below w.heap.size w w' := by
  have hu49 := Tryz.underlying49
  have HR0 := Aside0.mk hr0
  have HC0 := Aside0.mk hc0
  clear hr0 hc0
  have HB := Aside0.mk (Below.refl w.heap.size w)
  have H : (if (l0.length : Int) > 50 then (some 2) else (message_CheckHeaders.l0 k l0 (l0.length : Int) 0)) = some r := h
  clear h
  by_cases c2 : (l0.length : Int) > 50
  · rw [if_pos c2] at H
    have c2b0 : decide (50 < (l0.length : Int)) = true := decide_eq_true c2
    have c2b1 : decide (50 < l0.length) = true := decide_eq_true (by omega)
    clear c2
    obtain rfl := Option.some.inj H
    go_enter Tryz.func32, Tryz.ntmps32
    go_wp2
    go_ret
    exact ⟨by first | rfl | (simp [errW_none, errW_some] <;> rfl) | (simp [*, errW_none, errW_some] <;> rfl), by repeat (first | (with_reducible first | exact HB.out | apply below_alloc | apply pw_below_drewN | apply below_drew1) | exact HB.out)⟩
  · rw [if_neg c2] at H
    have c2b0 : decide (50 < (l0.length : Int)) = false := decide_eq_false c2
    have c2b1 : decide (50 < l0.length) = false := decide_eq_false (by omega)
    clear c2
    have H' := Aside0.mk H
    clear H
    go_enter Tryz.func32, Tryz.ntmps32
    go_wp2
    go_loopg [10] k (fun kq v10 w' => ∃ (x10_1 : Int), v10 = .int .i64 x10_1 ∧ Aside0 (message_CheckHeaders.l0 kq l0 (l0.length : Int) x10_1 = some r) ∧ Aside0 (kq ≤ k) ∧ Aside0 (Below w.heap.size w w'))
    case atStart => exact ⟨(0), (by first | rfl | (simp; done) | (simp [*]; done)), H', ⟨Nat.le_refl _⟩, ⟨by repeat (first | (with_reducible first | exact HB.out | apply below_alloc | apply pw_below_drewN | apply below_drew1) | exact HB.out)⟩⟩
    case round =>
      clear H'
      try clear c2
      try clear c2b0
      try clear c2b1
      try clear p2
      obtain ⟨x10_1, rfl, HA, HK1, HB⟩ := hrel
      cases gk with
      | zero => exact absurd HA.out (by simp [message_CheckHeaders.l0])
      | succ k1 =>
        have H := HA.out
        clear HA
        simp only [message_CheckHeaders.l0] at H
        by_cases c3 : x10_1 < (l0.length : Int)
        · rw [if_pos c3] at H
          have c3b0 : decide (x10_1 < (l0.length : Int)) = true := decide_eq_true c3
          clear c3
          by_cases c4 : 0 ≤ x10_1
          · rw [if_pos c4] at H
            have c4b0 : decide (0 ≤ x10_1) = true := decide_eq_true c4
            clear c4
            by_cases c5 : x10_1 < (l0.length : Int)
            · rw [if_pos c5] at H
              have c5b0 : decide (x10_1 < (l0.length : Int)) = true := decide_eq_true c5
              clear c5
              replace H := Option.bind_eq_some_iff.mp H
              obtain ⟨t252, A60, H⟩ := H
              replace H : (if t252 = true then ((message_IsField.f k1 ((rd_T49 l0 x10_1).f1)).bind fun t253 => (if t253 = true then (message_CheckHeaders.l0 k1 l0 (l0.length : Int) (wrap64 (x10_1 + 1))) else (some 3))) else (some 5)) = some r := H
              have A6 := Aside0.mk A60
              clear A60
              by_cases c7 : t252 = true
              · subst c7
                have H1 : ((message_IsField.f k1 ((rd_T49 l0 x10_1).f1)).bind fun t253 => (if t253 = true then (message_CheckHeaders.l0 k1 l0 (l0.length : Int) (wrap64 (x10_1 + 1))) else (some 3))) = some r := by rw [if_pos rfl] at H; exact H
                clear H
                have H := H1
                clear H1
                replace H := Option.bind_eq_some_iff.mp H
                obtain ⟨t253, A80, H⟩ := H
                replace H : (if t253 = true then (message_CheckHeaders.l0 k1 l0 (l0.length : Int) (wrap64 (x10_1 + 1))) else (some 3)) = some r := H
                have A8 := Aside0.mk A80
                clear A80
                by_cases c9 : t253 = true
                · subst c9
                  have H1 : (message_CheckHeaders.l0 k1 l0 (l0.length : Int) (wrap64 (x10_1 + 1))) = some r := by rw [if_pos rfl] at H; exact H
                  clear H
                  have H := H1
                  clear H1
                  have H' := Aside0.mk H
                  clear H
                  have p250 : 0 ≤ (x10_1 : Int) := of_decide_eq_true (by first | (with_reducible assumption) | assumption)
                  have q250 : x10_1 < (l0.length : Int) := of_decide_eq_true (by first | (with_reducible assumption) | assumption)
                  obtain ⟨ad250, e250, hx250_0, hx250_1⟩ := at_T49 HR0.out x10_1 p250 q250
                  cases e250
                  replace hx250_0 := (HB.out.cell (World.block_lt_of_cell? w _ hx250_0)).trans hx250_0
                  replace hx250_1 := (HB.out.cell (World.block_lt_of_cell? w _ hx250_1)).trans hx250_1
                  replace p250 := eq_true p250
                  replace q250 := eq_true q250
                  go_wp2_with (first | ((with_reducible refine gate_dst (N := 4) rfl ?_); refine box_event ?hg (N := 4) ?hd (cs := #[.string (⟨#[]⟩ : ByteArray), .string (⟨#[]⟩ : ByteArray)]) (t := 49) ?hr ?_; (case hd => rfl); (case hg => rfl); (case hr => first | (go_simp; done) | (go_simp; rfl)); intro gb251 hg w10 hbox hb; have n0_ := Aside0.mk (below_step (by repeat (first | (with_reducible first | exact HB.out | apply below_alloc | apply pw_below_drewN | apply below_drew1) | exact HB.out)) hb); have n1_ := Aside0.mk (hbox); have n2_ := Aside0.mk ((by rw [hg]; exact (below_size (by repeat (first | (with_reducible first | exact HB.out | apply below_alloc | apply pw_below_drewN | apply below_drew1) | exact HB.out))) : w.heap.size ≤ gb251)); have n3_ := Aside0.mk ((by rw [hg]; exact (below_size (by repeat (first | (with_reducible first | exact HB.out | apply below_alloc | apply pw_below_drewN | apply below_drew1) | exact HB.out))) : w.heap.size ≤ gb251)); clear HB; have HB := n0_; have BK251 := n1_; have GW251 := n2_; have GE251 := n3_; clear n0_ n1_ n2_ n3_; clear hb hbox hg; have hcz11_0 : w10.cell? ⟨gb251, 0, none⟩ = some (.string (⟨#[]⟩ : ByteArray)) := (blk_cell BK251.out 0).trans rfl; have hcz11_1 : w10.cell? ⟨gb251, 1, none⟩ = some (.string (⟨#[]⟩ : ByteArray)) := (blk_cell BK251.out 1).trans rfl; have hfz11_0 := blk_frozen BK251.out 0; have hfz11_1 := blk_frozen BK251.out 1) | ((with_reducible refine gate_callee (f := 51) rfl ?_); refine goesL_ (some 16) rfl rfl Tryz.func51 (by kernel_rfl) rfl #[.string ((rd_T49 l0 x10_1).f0)] rfl (by (try simp only [List.map_toArray, List.map_cons, List.map_nil]); first | done | rfl | (simp only [List.length_drop, List.length_take]; rfl)) ?_; (with_reducible refine (message_IsToken.calls k1 ((rd_T49 l0 x10_1).f0) true _ A6.out).mono ?_); rintro e w' ⟨rfl, ⟨nd, rfl⟩⟩; refine ⟨_, rfl, ?_⟩) | ((with_reducible refine gate_callee (f := 52) rfl ?_); refine goesL_ (some 20) rfl rfl Tryz.func52 (by kernel_rfl) rfl #[.string ((rd_T49 l0 x10_1).f1)] rfl (by (try simp only [List.map_toArray, List.map_cons, List.map_nil]); first | done | rfl | (simp only [List.length_drop, List.length_take]; rfl)) ?_; (with_reducible refine (message_IsField.calls k1 ((rd_T49 l0 x10_1).f1) true _ A8.out).mono ?_); rintro e w' ⟨rfl, ⟨nd, rfl⟩⟩; refine ⟨_, rfl, ?_⟩))
                  go_roundg k1
                  case measure => have := HK1.out; omega
                  case rel => exact ⟨(wrap64 (x10_1 + 1)), (by first | rfl | (simp; done) | (simp [*]; done)), H', ⟨by have := HK1.out; omega⟩, ⟨by repeat (first | (with_reducible first | exact HB.out | apply below_alloc | apply pw_below_drewN | apply below_drew1 | refine below_set ?_ GE251.out) | exact HB.out)⟩⟩
                · replace c9 := Bool.eq_false_iff.mpr c9
                  subst c9
                  have H1 : (some 3) = some r := by rw [if_neg (show ¬ (false = true) by decide)] at H; exact H
                  clear H
                  have H := H1
                  clear H1
                  obtain rfl := Option.some.inj H
                  have p250 : 0 ≤ (x10_1 : Int) := of_decide_eq_true (by first | (with_reducible assumption) | assumption)
                  have q250 : x10_1 < (l0.length : Int) := of_decide_eq_true (by first | (with_reducible assumption) | assumption)
                  obtain ⟨ad250, e250, hx250_0, hx250_1⟩ := at_T49 HR0.out x10_1 p250 q250
                  cases e250
                  replace hx250_0 := (HB.out.cell (World.block_lt_of_cell? w _ hx250_0)).trans hx250_0
                  replace hx250_1 := (HB.out.cell (World.block_lt_of_cell? w _ hx250_1)).trans hx250_1
                  replace p250 := eq_true p250
                  replace q250 := eq_true q250
                  go_wp2_with (first | ((with_reducible refine gate_dst (N := 4) rfl ?_); refine box_event ?hg (N := 4) ?hd (cs := #[.string (⟨#[]⟩ : ByteArray), .string (⟨#[]⟩ : ByteArray)]) (t := 49) ?hr ?_; (case hd => rfl); (case hg => rfl); (case hr => first | (go_simp; done) | (go_simp; rfl)); intro gb251 hg w12 hbox hb; have n0_ := Aside0.mk (below_step (by repeat (first | (with_reducible first | exact HB.out | apply below_alloc | apply pw_below_drewN | apply below_drew1) | exact HB.out)) hb); have n1_ := Aside0.mk (hbox); have n2_ := Aside0.mk ((by rw [hg]; exact (below_size (by repeat (first | (with_reducible first | exact HB.out | apply below_alloc | apply pw_below_drewN | apply below_drew1) | exact HB.out))) : w.heap.size ≤ gb251)); have n3_ := Aside0.mk ((by rw [hg]; exact (below_size (by repeat (first | (with_reducible first | exact HB.out | apply below_alloc | apply pw_below_drewN | apply below_drew1) | exact HB.out))) : w.heap.size ≤ gb251)); clear HB; have HB := n0_; have BK251 := n1_; have GW251 := n2_; have GE251 := n3_; clear n0_ n1_ n2_ n3_; clear hb hbox hg; have hcz13_0 : w12.cell? ⟨gb251, 0, none⟩ = some (.string (⟨#[]⟩ : ByteArray)) := (blk_cell BK251.out 0).trans rfl; have hcz13_1 : w12.cell? ⟨gb251, 1, none⟩ = some (.string (⟨#[]⟩ : ByteArray)) := (blk_cell BK251.out 1).trans rfl; have hfz13_0 := blk_frozen BK251.out 0; have hfz13_1 := blk_frozen BK251.out 1) | ((with_reducible refine gate_callee (f := 51) rfl ?_); refine goesL_ (some 16) rfl rfl Tryz.func51 (by kernel_rfl) rfl #[.string ((rd_T49 l0 x10_1).f0)] rfl (by (try simp only [List.map_toArray, List.map_cons, List.map_nil]); first | done | rfl | (simp only [List.length_drop, List.length_take]; rfl)) ?_; (with_reducible refine (message_IsToken.calls k1 ((rd_T49 l0 x10_1).f0) true _ A6.out).mono ?_); rintro e w' ⟨rfl, ⟨nd, rfl⟩⟩; refine ⟨_, rfl, ?_⟩) | ((with_reducible refine gate_callee (f := 52) rfl ?_); refine goesL_ (some 20) rfl rfl Tryz.func52 (by kernel_rfl) rfl #[.string ((rd_T49 l0 x10_1).f1)] rfl (by (try simp only [List.map_toArray, List.map_cons, List.map_nil]); first | done | rfl | (simp only [List.length_drop, List.length_take]; rfl)) ?_; (with_reducible refine (message_IsField.calls k1 ((rd_T49 l0 x10_1).f1) false _ A8.out).mono ?_); rintro e w' ⟨rfl, ⟨nd, rfl⟩⟩; refine ⟨_, rfl, ?_⟩))
                  go_ret
                  exact ⟨by first | rfl | (simp [errW_none, errW_some] <;> rfl) | (simp [*, errW_none, errW_some] <;> rfl), by repeat (first | (with_reducible first | exact HB.out | apply below_alloc | apply pw_below_drewN | apply below_drew1 | refine below_set ?_ GE251.out) | exact HB.out)⟩
              · replace c7 := Bool.eq_false_iff.mpr c7
                subst c7
                have H1 : (some 5) = some r := by rw [if_neg (show ¬ (false = true) by decide)] at H; exact H
                clear H
                have H := H1
                clear H1
                obtain rfl := Option.some.inj H
                have p250 : 0 ≤ (x10_1 : Int) := of_decide_eq_true (by first | (with_reducible assumption) | assumption)
                have q250 : x10_1 < (l0.length : Int) := of_decide_eq_true (by first | (with_reducible assumption) | assumption)
                obtain ⟨ad250, e250, hx250_0, hx250_1⟩ := at_T49 HR0.out x10_1 p250 q250
                cases e250
                replace hx250_0 := (HB.out.cell (World.block_lt_of_cell? w _ hx250_0)).trans hx250_0
                replace hx250_1 := (HB.out.cell (World.block_lt_of_cell? w _ hx250_1)).trans hx250_1
                replace p250 := eq_true p250
                replace q250 := eq_true q250
                go_wp2_with (first | ((with_reducible refine gate_dst (N := 4) rfl ?_); refine box_event ?hg (N := 4) ?hd (cs := #[.string (⟨#[]⟩ : ByteArray), .string (⟨#[]⟩ : ByteArray)]) (t := 49) ?hr ?_; (case hd => rfl); (case hg => rfl); (case hr => first | (go_simp; done) | (go_simp; rfl)); intro gb251 hg w14 hbox hb; have n0_ := Aside0.mk (below_step (by repeat (first | (with_reducible first | exact HB.out | apply below_alloc | apply pw_below_drewN | apply below_drew1) | exact HB.out)) hb); have n1_ := Aside0.mk (hbox); have n2_ := Aside0.mk ((by rw [hg]; exact (below_size (by repeat (first | (with_reducible first | exact HB.out | apply below_alloc | apply pw_below_drewN | apply below_drew1) | exact HB.out))) : w.heap.size ≤ gb251)); have n3_ := Aside0.mk ((by rw [hg]; exact (below_size (by repeat (first | (with_reducible first | exact HB.out | apply below_alloc | apply pw_below_drewN | apply below_drew1) | exact HB.out))) : w.heap.size ≤ gb251)); clear HB; have HB := n0_; have BK251 := n1_; have GW251 := n2_; have GE251 := n3_; clear n0_ n1_ n2_ n3_; clear hb hbox hg; have hcz15_0 : w14.cell? ⟨gb251, 0, none⟩ = some (.string (⟨#[]⟩ : ByteArray)) := (blk_cell BK251.out 0).trans rfl; have hcz15_1 : w14.cell? ⟨gb251, 1, none⟩ = some (.string (⟨#[]⟩ : ByteArray)) := (blk_cell BK251.out 1).trans rfl; have hfz15_0 := blk_frozen BK251.out 0; have hfz15_1 := blk_frozen BK251.out 1) | ((with_reducible refine gate_callee (f := 51) rfl ?_); refine goesL_ (some 16) rfl rfl Tryz.func51 (by kernel_rfl) rfl #[.string ((rd_T49 l0 x10_1).f0)] rfl (by (try simp only [List.map_toArray, List.map_cons, List.map_nil]); first | done | rfl | (simp only [List.length_drop, List.length_take]; rfl)) ?_; (with_reducible refine (message_IsToken.calls k1 ((rd_T49 l0 x10_1).f0) false _ A6.out).mono ?_); rintro e w' ⟨rfl, ⟨nd, rfl⟩⟩; refine ⟨_, rfl, ?_⟩))
                go_ret
                exact ⟨by first | rfl | (simp [errW_none, errW_some] <;> rfl) | (simp [*, errW_none, errW_some] <;> rfl), by repeat (first | (with_reducible first | exact HB.out | apply below_alloc | apply pw_below_drewN | apply below_drew1 | refine below_set ?_ GE251.out) | exact HB.out)⟩
            · rw [if_neg c5] at H
              exact absurd H (by simp)
          · rw [if_neg c4] at H
            exact absurd H (by simp)
        · rw [if_neg c3] at H
          have c3b0 : decide (x10_1 < (l0.length : Int)) = false := decide_eq_false c3
          clear c3
          obtain rfl := Option.some.inj H
          go_wp2
          go_ret
          exact ⟨by first | rfl | (simp [errW_none, errW_some] <;> rfl) | (simp [*, errW_none, errW_some] <;> rfl), by repeat (first | (with_reducible first | exact HB.out | apply below_alloc | apply pw_below_drewN | apply below_drew1) | exact HB.out)⟩

end Go.Proofs.YthgjnpmebjlecaaGreatDoor.P
/- The machine's side, printed by a program of this session: each Go function named below comes to the Lean function of its name; conditions: those of each theorem. -/
namespace Go.Proofs.YthgjnpmebjlecaaGreatDoor.P
open Go.RowKit Go.Proofs.YthgjnpmebjlecaaGreatDoorW.PrintWords Go.Proofs.YthgjnpmebjlecaaGreatDoorW.PrintLast Go.Proofs.YthgjnpmebjlecaaGreatDoorW.PrintMore
attribute [local go_sem] max2_int min2_int max_two min_two max_three min_three max_four min_four   -- for this text's walks alone
set_option linter.unusedVariables false
set_option linter.unusedSimpArgs false

/-! ### message_CheckResponse: function 38 -/
def message_CheckResponse.f (k : Nat) (a0_0 : Int) (l0_1 : List (S49)) (a0_2 : ByteArray) : Option (Int) := (kit_Outside.f a0_0 100 599).bind fun t255 => (if t255 = true then (some 1) else ((message_CheckHeaders.f k l0_1).bind fun t256 => (if t256 = 0 then (if (a0_2.size : Int) > 20000 then (some 2) else (some 0)) else (some t256))))
theorem message_CheckResponse.mono : ∀ a0 a1 a2 k, LeO (message_CheckResponse.f k a0 a1 a2) (message_CheckResponse.f (k + 1) a0 a1 a2) := by
  intro a0 a1 a2 k
  unfold message_CheckResponse.f
  repeat' first
      | (with_reducible exact message_CheckHeaders.mono _ _)
      | (with_reducible exact LeO.refl _)
      | (with_reducible exact LeO.none _)
      | (with_reducible refine LeO.ite ?_ ?_)
      | (with_reducible refine LeO.bind ?_ (fun _ => ?_))
      | exact message_CheckHeaders.mono _ _
      | exact LeO.none _
      | refine LeO.ite ?_ ?_
      | refine LeO.bind ?_ (fun _ => ?_)
set_option maxHeartbeats 8000000 in
set_option maxRecDepth 100000 in
theorem message_CheckResponse.calls (k : Nat) (a0_0 : Int) (A0_1 : Option Addr) (c0_1 : Nat) (l0_1 : List (S49)) (a0_2 : ByteArray) (r : Int) (w : World) (hr0_1 : Kd.C k49 w A0_1 l0_1.length l0_1) (hc0_1 : l0_1.length ≤ c0_1) (h : message_CheckResponse.f k a0_0 l0_1 a0_2 = some r) :
    Calls Tryz.prog 38 #[.agg #[.int .i64 a0_0, .slice A0_1 l0_1.length c0_1, .string a0_2]] w fun e w' => e = .returned (.int .i64 r) ∧ Below w.heap.size w w' := by
  have hu58 := Tryz.underlying58
  have HR0_1 := Aside0.mk hr0_1
  have HC0_1 := Aside0.mk hc0_1
  clear hr0_1 hc0_1
  have HB := Aside0.mk (Below.refl w.heap.size w)
  have H : ((kit_Outside.f a0_0 100 599).bind fun t255 => (if t255 = true then (some 1) else ((message_CheckHeaders.f k l0_1).bind fun t256 => (if t256 = 0 then (if (a0_2.size : Int) > 20000 then (some 2) else (some 0)) else (some t256))))) = some r := h
  clear h
  replace H := Option.bind_eq_some_iff.mp H
  obtain ⟨t255, A20, H⟩ := H
  replace H : (if t255 = true then (some 1) else ((message_CheckHeaders.f k l0_1).bind fun t256 => (if t256 = 0 then (if (a0_2.size : Int) > 20000 then (some 2) else (some 0)) else (some t256)))) = some r := H
  have A2 := Aside0.mk A20
  clear A20
  by_cases c3 : t255 = true
  · subst c3
    have H1 : (some 1) = some r := by rw [if_pos rfl] at H; exact H
    clear H
    have H := H1
    clear H1
    obtain rfl := Option.some.inj H
    go_enter Tryz.func38, Tryz.ntmps38
    go_wp2_with (first | ((with_reducible refine gate_dst (N := 1) rfl ?_); refine box_event ?hg (N := 1) ?hd (cs := #[.int .i64 a0_0, .slice A0_1 l0_1.length c0_1, .string a0_2]) (t := 58) ?hr ?_; (case hd => rfl); (case hg => rfl); (case hr => first | (go_simp; done) | (go_simp; rfl)); intro gb254 hg w4 hbox hb; have n0_ := Aside0.mk (below_step (by repeat (first | (with_reducible first | exact HB.out | apply below_alloc | apply pw_below_drewN | apply below_drew1) | exact HB.out)) hb); have n1_ := Aside0.mk (hbox); have n2_ := Aside0.mk ((by rw [hg]; exact (below_size (by repeat (first | (with_reducible first | exact HB.out | apply below_alloc | apply pw_below_drewN | apply below_drew1) | exact HB.out))) : w.heap.size ≤ gb254)); have n3_ := Aside0.mk ((by rw [hg]; exact (below_size (by repeat (first | (with_reducible first | exact HB.out | apply below_alloc | apply pw_below_drewN | apply below_drew1) | exact HB.out))) : w.heap.size ≤ gb254)); clear HB; have HB := n0_; have BK254 := n1_; have GW254 := n2_; have GE254 := n3_; clear n0_ n1_ n2_ n3_; clear hb hbox hg; have hcz5_0 : w4.cell? ⟨gb254, 0, none⟩ = some (.int .i64 a0_0) := (blk_cell BK254.out 0).trans rfl; have hcz5_1 : w4.cell? ⟨gb254, 1, none⟩ = some (.slice A0_1 l0_1.length c0_1) := (blk_cell BK254.out 1).trans rfl; have hcz5_2 : w4.cell? ⟨gb254, 2, none⟩ = some (.string a0_2) := (blk_cell BK254.out 2).trans rfl; have hfz5_0 := blk_frozen BK254.out 0; have hfz5_1 := blk_frozen BK254.out 1; have hfz5_2 := blk_frozen BK254.out 2) | ((with_reducible refine gate_callee (f := 18) rfl ?_); refine goesL_ (some 6) rfl rfl Tryz.func18 (by kernel_rfl) rfl #[.int .i64 a0_0, .int .i64 100, .int .i64 599] rfl (by (try simp only [List.map_toArray, List.map_cons, List.map_nil]); first | done | rfl | (simp only [List.length_drop, List.length_take]; rfl)) ?_; (with_reducible refine (kit_Outside.calls a0_0 100 599 true _ A2.out).mono ?_); rintro e w' ⟨rfl, ⟨nd, rfl⟩⟩; refine ⟨_, rfl, ?_⟩))
    go_ret
    exact ⟨by first | rfl | (simp [errW_none, errW_some] <;> rfl) | (simp [*, errW_none, errW_some] <;> rfl), by repeat (first | (with_reducible first | exact HB.out | apply below_alloc | apply pw_below_drewN | apply below_drew1 | refine below_set ?_ GE254.out) | exact HB.out)⟩
  · replace c3 := Bool.eq_false_iff.mpr c3
    subst c3
    have H1 : ((message_CheckHeaders.f k l0_1).bind fun t256 => (if t256 = 0 then (if (a0_2.size : Int) > 20000 then (some 2) else (some 0)) else (some t256))) = some r := by rw [if_neg (show ¬ (false = true) by decide)] at H; exact H
    clear H
    have H := H1
    clear H1
    replace H := Option.bind_eq_some_iff.mp H
    obtain ⟨t256, A60, H⟩ := H
    replace H : (if t256 = 0 then (if (a0_2.size : Int) > 20000 then (some 2) else (some 0)) else (some t256)) = some r := H
    have A6 := Aside0.mk A60
    clear A60
    by_cases c7 : t256 = 0
    · rw [if_pos c7] at H
      have c7b0 : (t256 == 0) = true := beq_iff_eq.mpr c7
      have c7b1 : (t256 != 0) = false := bne_eq_false_iff_eq.mpr c7
      clear c7
      by_cases c8 : (a0_2.size : Int) > 20000
      · rw [if_pos c8] at H
        have c8b0 : decide (20000 < (a0_2.size : Int)) = true := decide_eq_true c8
        have c8b1 : decide (20000 < a0_2.size) = true := decide_eq_true (by omega)
        clear c8
        obtain rfl := Option.some.inj H
        go_enter Tryz.func38, Tryz.ntmps38
        go_wp2_with (first | ((with_reducible refine gate_dst (N := 1) rfl ?_); refine box_event ?hg (N := 1) ?hd (cs := #[.int .i64 a0_0, .slice A0_1 l0_1.length c0_1, .string a0_2]) (t := 58) ?hr ?_; (case hd => rfl); (case hg => rfl); (case hr => first | (go_simp; done) | (go_simp; rfl)); intro gb254 hg w9 hbox hb; have n0_ := Aside0.mk (below_step (by repeat (first | (with_reducible first | exact HB.out | apply below_alloc | apply pw_below_drewN | apply below_drew1) | exact HB.out)) hb); have n1_ := Aside0.mk (hbox); have n2_ := Aside0.mk ((by rw [hg]; exact (below_size (by repeat (first | (with_reducible first | exact HB.out | apply below_alloc | apply pw_below_drewN | apply below_drew1) | exact HB.out))) : w.heap.size ≤ gb254)); have n3_ := Aside0.mk ((by rw [hg]; exact (below_size (by repeat (first | (with_reducible first | exact HB.out | apply below_alloc | apply pw_below_drewN | apply below_drew1) | exact HB.out))) : w.heap.size ≤ gb254)); clear HB; have HB := n0_; have BK254 := n1_; have GW254 := n2_; have GE254 := n3_; clear n0_ n1_ n2_ n3_; clear hb hbox hg; have hcz10_0 : w9.cell? ⟨gb254, 0, none⟩ = some (.int .i64 a0_0) := (blk_cell BK254.out 0).trans rfl; have hcz10_1 : w9.cell? ⟨gb254, 1, none⟩ = some (.slice A0_1 l0_1.length c0_1) := (blk_cell BK254.out 1).trans rfl; have hcz10_2 : w9.cell? ⟨gb254, 2, none⟩ = some (.string a0_2) := (blk_cell BK254.out 2).trans rfl; have hfz10_0 := blk_frozen BK254.out 0; have hfz10_1 := blk_frozen BK254.out 1; have hfz10_2 := blk_frozen BK254.out 2) | ((with_reducible refine gate_callee (f := 18) rfl ?_); refine goesL_ (some 6) rfl rfl Tryz.func18 (by kernel_rfl) rfl #[.int .i64 a0_0, .int .i64 100, .int .i64 599] rfl (by (try simp only [List.map_toArray, List.map_cons, List.map_nil]); first | done | rfl | (simp only [List.length_drop, List.length_take]; rfl)) ?_; (with_reducible refine (kit_Outside.calls a0_0 100 599 false _ A2.out).mono ?_); rintro e w' ⟨rfl, ⟨nd, rfl⟩⟩; refine ⟨_, rfl, ?_⟩) | ((with_reducible refine gate_callee (f := 32) rfl ?_); refine goesL_ (some 9) rfl rfl Tryz.func32 (by kernel_rfl) rfl #[.slice A0_1 l0_1.length c0_1] rfl (by (try simp only [List.map_toArray, List.map_cons, List.map_nil]); first | done | rfl | (simp only [List.length_drop, List.length_take]; rfl)) ?_; (with_reducible refine (message_CheckHeaders.calls k _ _ l0_1 t256 _ ?side1 ?side2 A6.out).mono ?_); (case side1 => repeat (first | exact (Kd.C_below HR0_1.out (by repeat (first | (with_reducible first | exact HB.out | apply below_alloc | apply pw_below_drewN | apply below_drew1 | refine below_set ?_ GE254.out) | exact HB.out))) | (with_reducible refine Kd.C_alloc ?_ _) | (with_reducible refine Kd.C_drewN ?_ _) | (with_reducible refine Kd.C_drew ?_))); (case side2 => exact HC0_1.out); rintro e w11 ⟨rfl, hb⟩; refine ⟨_, rfl, ?_⟩; have n0_ := Aside0.mk (blk_below (g := gb254) (o := .cells #[.int .i64 a0_0, .slice A0_1 l0_1.length c0_1, .string a0_2] 58 (0, 0)) (by (with_reducible repeat (first | refine blk_drewN ?_ _ | refine blk_drew ?_ | refine blk_alloc ?_ _)); exact BK254.out) hb); have n1_ := Aside0.mk (below_step (by repeat (first | (with_reducible first | exact HB.out | apply below_alloc | apply pw_below_drewN | apply below_drew1 | refine below_set ?_ GE254.out) | exact HB.out)) hb); clear BK254; clear HB; have BK254 := n0_; have HB := n1_; clear n0_ n1_; (try clear hb); (try clear hb2); (try clear hk); (try clear hi); have hcz12_0 : w11.cell? ⟨gb254, 0, none⟩ = some (.int .i64 a0_0) := (blk_cell BK254.out 0).trans rfl; have hcz12_1 : w11.cell? ⟨gb254, 1, none⟩ = some (.slice A0_1 l0_1.length c0_1) := (blk_cell BK254.out 1).trans rfl; have hcz12_2 : w11.cell? ⟨gb254, 2, none⟩ = some (.string a0_2) := (blk_cell BK254.out 2).trans rfl; have hfz12_0 := blk_frozen BK254.out 0; have hfz12_1 := blk_frozen BK254.out 1; have hfz12_2 := blk_frozen BK254.out 2))
        go_ret
        exact ⟨by first | rfl | (simp [errW_none, errW_some] <;> rfl) | (simp [*, errW_none, errW_some] <;> rfl), by repeat (first | (with_reducible first | exact HB.out | apply below_alloc | apply pw_below_drewN | apply below_drew1 | refine below_set ?_ GE254.out) | exact HB.out)⟩
      · rw [if_neg c8] at H
        have c8b0 : decide (20000 < (a0_2.size : Int)) = false := decide_eq_false c8
        have c8b1 : decide (20000 < a0_2.size) = false := decide_eq_false (by omega)
        clear c8
        obtain rfl := Option.some.inj H
        go_enter Tryz.func38, Tryz.ntmps38
        go_wp2_with (first | ((with_reducible refine gate_dst (N := 1) rfl ?_); refine box_event ?hg (N := 1) ?hd (cs := #[.int .i64 a0_0, .slice A0_1 l0_1.length c0_1, .string a0_2]) (t := 58) ?hr ?_; (case hd => rfl); (case hg => rfl); (case hr => first | (go_simp; done) | (go_simp; rfl)); intro gb254 hg w13 hbox hb; have n0_ := Aside0.mk (below_step (by repeat (first | (with_reducible first | exact HB.out | apply below_alloc | apply pw_below_drewN | apply below_drew1) | exact HB.out)) hb); have n1_ := Aside0.mk (hbox); have n2_ := Aside0.mk ((by rw [hg]; exact (below_size (by repeat (first | (with_reducible first | exact HB.out | apply below_alloc | apply pw_below_drewN | apply below_drew1) | exact HB.out))) : w.heap.size ≤ gb254)); have n3_ := Aside0.mk ((by rw [hg]; exact (below_size (by repeat (first | (with_reducible first | exact HB.out | apply below_alloc | apply pw_below_drewN | apply below_drew1) | exact HB.out))) : w.heap.size ≤ gb254)); clear HB; have HB := n0_; have BK254 := n1_; have GW254 := n2_; have GE254 := n3_; clear n0_ n1_ n2_ n3_; clear hb hbox hg; have hcz14_0 : w13.cell? ⟨gb254, 0, none⟩ = some (.int .i64 a0_0) := (blk_cell BK254.out 0).trans rfl; have hcz14_1 : w13.cell? ⟨gb254, 1, none⟩ = some (.slice A0_1 l0_1.length c0_1) := (blk_cell BK254.out 1).trans rfl; have hcz14_2 : w13.cell? ⟨gb254, 2, none⟩ = some (.string a0_2) := (blk_cell BK254.out 2).trans rfl; have hfz14_0 := blk_frozen BK254.out 0; have hfz14_1 := blk_frozen BK254.out 1; have hfz14_2 := blk_frozen BK254.out 2) | ((with_reducible refine gate_callee (f := 18) rfl ?_); refine goesL_ (some 6) rfl rfl Tryz.func18 (by kernel_rfl) rfl #[.int .i64 a0_0, .int .i64 100, .int .i64 599] rfl (by (try simp only [List.map_toArray, List.map_cons, List.map_nil]); first | done | rfl | (simp only [List.length_drop, List.length_take]; rfl)) ?_; (with_reducible refine (kit_Outside.calls a0_0 100 599 false _ A2.out).mono ?_); rintro e w' ⟨rfl, ⟨nd, rfl⟩⟩; refine ⟨_, rfl, ?_⟩) | ((with_reducible refine gate_callee (f := 32) rfl ?_); refine goesL_ (some 9) rfl rfl Tryz.func32 (by kernel_rfl) rfl #[.slice A0_1 l0_1.length c0_1] rfl (by (try simp only [List.map_toArray, List.map_cons, List.map_nil]); first | done | rfl | (simp only [List.length_drop, List.length_take]; rfl)) ?_; (with_reducible refine (message_CheckHeaders.calls k _ _ l0_1 t256 _ ?side1 ?side2 A6.out).mono ?_); (case side1 => repeat (first | exact (Kd.C_below HR0_1.out (by repeat (first | (with_reducible first | exact HB.out | apply below_alloc | apply pw_below_drewN | apply below_drew1 | refine below_set ?_ GE254.out) | exact HB.out))) | (with_reducible refine Kd.C_alloc ?_ _) | (with_reducible refine Kd.C_drewN ?_ _) | (with_reducible refine Kd.C_drew ?_))); (case side2 => exact HC0_1.out); rintro e w15 ⟨rfl, hb⟩; refine ⟨_, rfl, ?_⟩; have n0_ := Aside0.mk (blk_below (g := gb254) (o := .cells #[.int .i64 a0_0, .slice A0_1 l0_1.length c0_1, .string a0_2] 58 (0, 0)) (by (with_reducible repeat (first | refine blk_drewN ?_ _ | refine blk_drew ?_ | refine blk_alloc ?_ _)); exact BK254.out) hb); have n1_ := Aside0.mk (below_step (by repeat (first | (with_reducible first | exact HB.out | apply below_alloc | apply pw_below_drewN | apply below_drew1 | refine below_set ?_ GE254.out) | exact HB.out)) hb); clear BK254; clear HB; have BK254 := n0_; have HB := n1_; clear n0_ n1_; (try clear hb); (try clear hb2); (try clear hk); (try clear hi); have hcz16_0 : w15.cell? ⟨gb254, 0, none⟩ = some (.int .i64 a0_0) := (blk_cell BK254.out 0).trans rfl; have hcz16_1 : w15.cell? ⟨gb254, 1, none⟩ = some (.slice A0_1 l0_1.length c0_1) := (blk_cell BK254.out 1).trans rfl; have hcz16_2 : w15.cell? ⟨gb254, 2, none⟩ = some (.string a0_2) := (blk_cell BK254.out 2).trans rfl; have hfz16_0 := blk_frozen BK254.out 0; have hfz16_1 := blk_frozen BK254.out 1; have hfz16_2 := blk_frozen BK254.out 2))
        go_ret
        exact ⟨by first | rfl | (simp [errW_none, errW_some] <;> rfl) | (simp [*, errW_none, errW_some] <;> rfl), by repeat (first | (with_reducible first | exact HB.out | apply below_alloc | apply pw_below_drewN | apply below_drew1 | refine below_set ?_ GE254.out) | exact HB.out)⟩
    · rw [if_neg c7] at H
      have c7b0 : (t256 == 0) = false := beq_eq_false_iff_ne.mpr c7
      have c7b1 : (t256 != 0) = true := bne_iff_ne.mpr c7
      obtain rfl := Option.some.inj H
      go_enter Tryz.func38, Tryz.ntmps38
      go_wp2_with (first | ((with_reducible refine gate_dst (N := 1) rfl ?_); refine box_event ?hg (N := 1) ?hd (cs := #[.int .i64 a0_0, .slice A0_1 l0_1.length c0_1, .string a0_2]) (t := 58) ?hr ?_; (case hd => rfl); (case hg => rfl); (case hr => first | (go_simp; done) | (go_simp; rfl)); intro gb254 hg w17 hbox hb; have n0_ := Aside0.mk (below_step (by repeat (first | (with_reducible first | exact HB.out | apply below_alloc | apply pw_below_drewN | apply below_drew1) | exact HB.out)) hb); have n1_ := Aside0.mk (hbox); have n2_ := Aside0.mk ((by rw [hg]; exact (below_size (by repeat (first | (with_reducible first | exact HB.out | apply below_alloc | apply pw_below_drewN | apply below_drew1) | exact HB.out))) : w.heap.size ≤ gb254)); have n3_ := Aside0.mk ((by rw [hg]; exact (below_size (by repeat (first | (with_reducible first | exact HB.out | apply below_alloc | apply pw_below_drewN | apply below_drew1) | exact HB.out))) : w.heap.size ≤ gb254)); clear HB; have HB := n0_; have BK254 := n1_; have GW254 := n2_; have GE254 := n3_; clear n0_ n1_ n2_ n3_; clear hb hbox hg; have hcz18_0 : w17.cell? ⟨gb254, 0, none⟩ = some (.int .i64 a0_0) := (blk_cell BK254.out 0).trans rfl; have hcz18_1 : w17.cell? ⟨gb254, 1, none⟩ = some (.slice A0_1 l0_1.length c0_1) := (blk_cell BK254.out 1).trans rfl; have hcz18_2 : w17.cell? ⟨gb254, 2, none⟩ = some (.string a0_2) := (blk_cell BK254.out 2).trans rfl; have hfz18_0 := blk_frozen BK254.out 0; have hfz18_1 := blk_frozen BK254.out 1; have hfz18_2 := blk_frozen BK254.out 2) | ((with_reducible refine gate_callee (f := 18) rfl ?_); refine goesL_ (some 6) rfl rfl Tryz.func18 (by kernel_rfl) rfl #[.int .i64 a0_0, .int .i64 100, .int .i64 599] rfl (by (try simp only [List.map_toArray, List.map_cons, List.map_nil]); first | done | rfl | (simp only [List.length_drop, List.length_take]; rfl)) ?_; (with_reducible refine (kit_Outside.calls a0_0 100 599 false _ A2.out).mono ?_); rintro e w' ⟨rfl, ⟨nd, rfl⟩⟩; refine ⟨_, rfl, ?_⟩) | ((with_reducible refine gate_callee (f := 32) rfl ?_); refine goesL_ (some 9) rfl rfl Tryz.func32 (by kernel_rfl) rfl #[.slice A0_1 l0_1.length c0_1] rfl (by (try simp only [List.map_toArray, List.map_cons, List.map_nil]); first | done | rfl | (simp only [List.length_drop, List.length_take]; rfl)) ?_; (with_reducible refine (message_CheckHeaders.calls k _ _ l0_1 t256 _ ?side1 ?side2 A6.out).mono ?_); (case side1 => repeat (first | exact (Kd.C_below HR0_1.out (by repeat (first | (with_reducible first | exact HB.out | apply below_alloc | apply pw_below_drewN | apply below_drew1 | refine below_set ?_ GE254.out) | exact HB.out))) | (with_reducible refine Kd.C_alloc ?_ _) | (with_reducible refine Kd.C_drewN ?_ _) | (with_reducible refine Kd.C_drew ?_))); (case side2 => exact HC0_1.out); rintro e w19 ⟨rfl, hb⟩; refine ⟨_, rfl, ?_⟩; have n0_ := Aside0.mk (blk_below (g := gb254) (o := .cells #[.int .i64 a0_0, .slice A0_1 l0_1.length c0_1, .string a0_2] 58 (0, 0)) (by (with_reducible repeat (first | refine blk_drewN ?_ _ | refine blk_drew ?_ | refine blk_alloc ?_ _)); exact BK254.out) hb); have n1_ := Aside0.mk (below_step (by repeat (first | (with_reducible first | exact HB.out | apply below_alloc | apply pw_below_drewN | apply below_drew1 | refine below_set ?_ GE254.out) | exact HB.out)) hb); clear BK254; clear HB; have BK254 := n0_; have HB := n1_; clear n0_ n1_; (try clear hb); (try clear hb2); (try clear hk); (try clear hi)))
      go_ret
      exact ⟨by first | rfl | (simp [errW_none, errW_some] <;> rfl) | (simp [*, errW_none, errW_some] <;> rfl), by repeat (first | (with_reducible first | exact HB.out | apply below_alloc | apply pw_below_drewN | apply below_drew1 | refine below_set ?_ GE254.out) | exact HB.out)⟩

end Go.Proofs.YthgjnpmebjlecaaGreatDoor.P
/- The machine's side, printed by a program of this session: each Go function named below comes to the Lean function of its name; conditions: those of each theorem. -/
namespace Go.Proofs.YthgjnpmebjlecaaGreatDoor.P
open Go.RowKit Go.Proofs.YthgjnpmebjlecaaGreatDoorW.PrintWords Go.Proofs.YthgjnpmebjlecaaGreatDoorW.PrintLast Go.Proofs.YthgjnpmebjlecaaGreatDoorW.PrintMore
attribute [local go_sem] max2_int min2_int max_two min_two max_three min_three max_four min_four   -- for this text's walks alone
set_option linter.unusedVariables false
set_option linter.unusedSimpArgs false

/-! ### cache_lifetime: function 40 -/
def cache_lifetime.f (a0_0 : Bool) (a0_1 : Bool) (a0_2 : Bool) (a0_3 : Bool) (a0_4 : Bool) (a0_5 : Bool) (a0_6 : Int) (a0_7 : Int) (a0_8 : Int) (a0_9 : Int) (a0_10 : Int) (a0_11 : Int) : Option (Int) := if a0_1 = true then (some 0) else (if a0_7 = (-1) then (if a0_6 = (-1) then (some 0) else (some (wrap64 (a0_6 * 1000)))) else (some (wrap64 (a0_7 * 1000))))
set_option maxHeartbeats 8000000 in
set_option maxRecDepth 100000 in
theorem cache_lifetime.calls (a0_0 : Bool) (a0_1 : Bool) (a0_2 : Bool) (a0_3 : Bool) (a0_4 : Bool) (a0_5 : Bool) (a0_6 : Int) (a0_7 : Int) (a0_8 : Int) (a0_9 : Int) (a0_10 : Int) (a0_11 : Int) (r : Int) (w : World) (h : cache_lifetime.f a0_0 a0_1 a0_2 a0_3 a0_4 a0_5 a0_6 a0_7 a0_8 a0_9 a0_10 a0_11 = some r) :
    Calls Tryz.prog 40 #[.agg #[.bool a0_0, .bool a0_1, .bool a0_2, .bool a0_3, .bool a0_4, .bool a0_5, .int .i64 a0_6, .int .i64 a0_7, .int .i64 a0_8, .int .i64 a0_9, .int .i64 a0_10, .int .i64 a0_11]] w fun e w' => e = .returned (.int .i64 r) ∧ Below w.heap.size w w' := by
  have hu43 := Tryz.underlying43
  have HB := Aside0.mk (Below.refl w.heap.size w)
  have H : (if a0_1 = true then (some 0) else (if a0_7 = (-1) then (if a0_6 = (-1) then (some 0) else (some (wrap64 (a0_6 * 1000)))) else (some (wrap64 (a0_7 * 1000))))) = some r := h
  clear h
  by_cases c2 : a0_1 = true
  · subst c2
    have H1 : (some 0) = some r := by rw [if_pos rfl] at H; exact H
    clear H
    have H := H1
    clear H1
    obtain rfl := Option.some.inj H
    go_enter Tryz.func40, Tryz.ntmps40
    go_wp2_with (first | ((with_reducible refine gate_dst (N := 1) rfl ?_); refine box_event ?hg (N := 1) ?hd (cs := #[.bool a0_0, .bool true, .bool a0_2, .bool a0_3, .bool a0_4, .bool a0_5, .int .i64 a0_6, .int .i64 a0_7, .int .i64 a0_8, .int .i64 a0_9, .int .i64 a0_10, .int .i64 a0_11]) (t := 43) ?hr ?_; (case hd => rfl); (case hg => rfl); (case hr => first | (go_simp; done) | (go_simp; rfl)); intro gb285 hg w3 hbox hb; have n0_ := Aside0.mk (below_step (by repeat (first | (with_reducible first | exact HB.out | apply below_alloc | apply pw_below_drewN | apply below_drew1) | exact HB.out)) hb); have n1_ := Aside0.mk (hbox); have n2_ := Aside0.mk ((by rw [hg]; exact (below_size (by repeat (first | (with_reducible first | exact HB.out | apply below_alloc | apply pw_below_drewN | apply below_drew1) | exact HB.out))) : w.heap.size ≤ gb285)); have n3_ := Aside0.mk ((by rw [hg]; exact (below_size (by repeat (first | (with_reducible first | exact HB.out | apply below_alloc | apply pw_below_drewN | apply below_drew1) | exact HB.out))) : w.heap.size ≤ gb285)); clear HB; have HB := n0_; have BK285 := n1_; have GW285 := n2_; have GE285 := n3_; clear n0_ n1_ n2_ n3_; clear hb hbox hg; have hcz4_0 : w3.cell? ⟨gb285, 0, none⟩ = some (.bool a0_0) := (blk_cell BK285.out 0).trans rfl; have hcz4_1 : w3.cell? ⟨gb285, 1, none⟩ = some (.bool true) := (blk_cell BK285.out 1).trans rfl; have hcz4_2 : w3.cell? ⟨gb285, 2, none⟩ = some (.bool a0_2) := (blk_cell BK285.out 2).trans rfl; have hcz4_3 : w3.cell? ⟨gb285, 3, none⟩ = some (.bool a0_3) := (blk_cell BK285.out 3).trans rfl; have hcz4_4 : w3.cell? ⟨gb285, 4, none⟩ = some (.bool a0_4) := (blk_cell BK285.out 4).trans rfl; have hcz4_5 : w3.cell? ⟨gb285, 5, none⟩ = some (.bool a0_5) := (blk_cell BK285.out 5).trans rfl; have hcz4_6 : w3.cell? ⟨gb285, 6, none⟩ = some (.int .i64 a0_6) := (blk_cell BK285.out 6).trans rfl; have hcz4_7 : w3.cell? ⟨gb285, 7, none⟩ = some (.int .i64 a0_7) := (blk_cell BK285.out 7).trans rfl; have hcz4_8 : w3.cell? ⟨gb285, 8, none⟩ = some (.int .i64 a0_8) := (blk_cell BK285.out 8).trans rfl; have hcz4_9 : w3.cell? ⟨gb285, 9, none⟩ = some (.int .i64 a0_9) := (blk_cell BK285.out 9).trans rfl; have hcz4_10 : w3.cell? ⟨gb285, 10, none⟩ = some (.int .i64 a0_10) := (blk_cell BK285.out 10).trans rfl; have hcz4_11 : w3.cell? ⟨gb285, 11, none⟩ = some (.int .i64 a0_11) := (blk_cell BK285.out 11).trans rfl; have hfz4_0 := blk_frozen BK285.out 0; have hfz4_1 := blk_frozen BK285.out 1; have hfz4_2 := blk_frozen BK285.out 2; have hfz4_3 := blk_frozen BK285.out 3; have hfz4_4 := blk_frozen BK285.out 4; have hfz4_5 := blk_frozen BK285.out 5; have hfz4_6 := blk_frozen BK285.out 6; have hfz4_7 := blk_frozen BK285.out 7; have hfz4_8 := blk_frozen BK285.out 8; have hfz4_9 := blk_frozen BK285.out 9; have hfz4_10 := blk_frozen BK285.out 10; have hfz4_11 := blk_frozen BK285.out 11))
    go_ret
    exact ⟨by first | rfl | (simp [errW_none, errW_some] <;> rfl) | (simp [*, errW_none, errW_some] <;> rfl), by repeat (first | (with_reducible first | exact HB.out | apply below_alloc | apply pw_below_drewN | apply below_drew1 | refine below_set ?_ GE285.out) | exact HB.out)⟩
  · replace c2 := Bool.eq_false_iff.mpr c2
    subst c2
    have H1 : (if a0_7 = (-1) then (if a0_6 = (-1) then (some 0) else (some (wrap64 (a0_6 * 1000)))) else (some (wrap64 (a0_7 * 1000)))) = some r := by rw [if_neg (show ¬ (false = true) by decide)] at H; exact H
    clear H
    have H := H1
    clear H1
    by_cases c5 : a0_7 = (-1)
    · rw [if_pos c5] at H
      have c5b0 : (a0_7 == (-1)) = true := beq_iff_eq.mpr c5
      have c5b1 : (a0_7 != (-1)) = false := bne_eq_false_iff_eq.mpr c5
      clear c5
      by_cases c6 : a0_6 = (-1)
      · rw [if_pos c6] at H
        have c6b0 : (a0_6 == (-1)) = true := beq_iff_eq.mpr c6
        have c6b1 : (a0_6 != (-1)) = false := bne_eq_false_iff_eq.mpr c6
        clear c6
        obtain rfl := Option.some.inj H
        go_enter Tryz.func40, Tryz.ntmps40
        go_wp2_with (first | ((with_reducible refine gate_dst (N := 1) rfl ?_); refine box_event ?hg (N := 1) ?hd (cs := #[.bool a0_0, .bool false, .bool a0_2, .bool a0_3, .bool a0_4, .bool a0_5, .int .i64 a0_6, .int .i64 a0_7, .int .i64 a0_8, .int .i64 a0_9, .int .i64 a0_10, .int .i64 a0_11]) (t := 43) ?hr ?_; (case hd => rfl); (case hg => rfl); (case hr => first | (go_simp; done) | (go_simp; rfl)); intro gb285 hg w7 hbox hb; have n0_ := Aside0.mk (below_step (by repeat (first | (with_reducible first | exact HB.out | apply below_alloc | apply pw_below_drewN | apply below_drew1) | exact HB.out)) hb); have n1_ := Aside0.mk (hbox); have n2_ := Aside0.mk ((by rw [hg]; exact (below_size (by repeat (first | (with_reducible first | exact HB.out | apply below_alloc | apply pw_below_drewN | apply below_drew1) | exact HB.out))) : w.heap.size ≤ gb285)); have n3_ := Aside0.mk ((by rw [hg]; exact (below_size (by repeat (first | (with_reducible first | exact HB.out | apply below_alloc | apply pw_below_drewN | apply below_drew1) | exact HB.out))) : w.heap.size ≤ gb285)); clear HB; have HB := n0_; have BK285 := n1_; have GW285 := n2_; have GE285 := n3_; clear n0_ n1_ n2_ n3_; clear hb hbox hg; have hcz8_0 : w7.cell? ⟨gb285, 0, none⟩ = some (.bool a0_0) := (blk_cell BK285.out 0).trans rfl; have hcz8_1 : w7.cell? ⟨gb285, 1, none⟩ = some (.bool false) := (blk_cell BK285.out 1).trans rfl; have hcz8_2 : w7.cell? ⟨gb285, 2, none⟩ = some (.bool a0_2) := (blk_cell BK285.out 2).trans rfl; have hcz8_3 : w7.cell? ⟨gb285, 3, none⟩ = some (.bool a0_3) := (blk_cell BK285.out 3).trans rfl; have hcz8_4 : w7.cell? ⟨gb285, 4, none⟩ = some (.bool a0_4) := (blk_cell BK285.out 4).trans rfl; have hcz8_5 : w7.cell? ⟨gb285, 5, none⟩ = some (.bool a0_5) := (blk_cell BK285.out 5).trans rfl; have hcz8_6 : w7.cell? ⟨gb285, 6, none⟩ = some (.int .i64 a0_6) := (blk_cell BK285.out 6).trans rfl; have hcz8_7 : w7.cell? ⟨gb285, 7, none⟩ = some (.int .i64 a0_7) := (blk_cell BK285.out 7).trans rfl; have hcz8_8 : w7.cell? ⟨gb285, 8, none⟩ = some (.int .i64 a0_8) := (blk_cell BK285.out 8).trans rfl; have hcz8_9 : w7.cell? ⟨gb285, 9, none⟩ = some (.int .i64 a0_9) := (blk_cell BK285.out 9).trans rfl; have hcz8_10 : w7.cell? ⟨gb285, 10, none⟩ = some (.int .i64 a0_10) := (blk_cell BK285.out 10).trans rfl; have hcz8_11 : w7.cell? ⟨gb285, 11, none⟩ = some (.int .i64 a0_11) := (blk_cell BK285.out 11).trans rfl; have hfz8_0 := blk_frozen BK285.out 0; have hfz8_1 := blk_frozen BK285.out 1; have hfz8_2 := blk_frozen BK285.out 2; have hfz8_3 := blk_frozen BK285.out 3; have hfz8_4 := blk_frozen BK285.out 4; have hfz8_5 := blk_frozen BK285.out 5; have hfz8_6 := blk_frozen BK285.out 6; have hfz8_7 := blk_frozen BK285.out 7; have hfz8_8 := blk_frozen BK285.out 8; have hfz8_9 := blk_frozen BK285.out 9; have hfz8_10 := blk_frozen BK285.out 10; have hfz8_11 := blk_frozen BK285.out 11))
        go_ret
        exact ⟨by first | rfl | (simp [errW_none, errW_some] <;> rfl) | (simp [*, errW_none, errW_some] <;> rfl), by repeat (first | (with_reducible first | exact HB.out | apply below_alloc | apply pw_below_drewN | apply below_drew1 | refine below_set ?_ GE285.out) | exact HB.out)⟩
      · rw [if_neg c6] at H
        have c6b0 : (a0_6 == (-1)) = false := beq_eq_false_iff_ne.mpr c6
        have c6b1 : (a0_6 != (-1)) = true := bne_iff_ne.mpr c6
        obtain rfl := Option.some.inj H
        go_enter Tryz.func40, Tryz.ntmps40
        go_wp2_with (first | ((with_reducible refine gate_dst (N := 1) rfl ?_); refine box_event ?hg (N := 1) ?hd (cs := #[.bool a0_0, .bool false, .bool a0_2, .bool a0_3, .bool a0_4, .bool a0_5, .int .i64 a0_6, .int .i64 a0_7, .int .i64 a0_8, .int .i64 a0_9, .int .i64 a0_10, .int .i64 a0_11]) (t := 43) ?hr ?_; (case hd => rfl); (case hg => rfl); (case hr => first | (go_simp; done) | (go_simp; rfl)); intro gb285 hg w9 hbox hb; have n0_ := Aside0.mk (below_step (by repeat (first | (with_reducible first | exact HB.out | apply below_alloc | apply pw_below_drewN | apply below_drew1) | exact HB.out)) hb); have n1_ := Aside0.mk (hbox); have n2_ := Aside0.mk ((by rw [hg]; exact (below_size (by repeat (first | (with_reducible first | exact HB.out | apply below_alloc | apply pw_below_drewN | apply below_drew1) | exact HB.out))) : w.heap.size ≤ gb285)); have n3_ := Aside0.mk ((by rw [hg]; exact (below_size (by repeat (first | (with_reducible first | exact HB.out | apply below_alloc | apply pw_below_drewN | apply below_drew1) | exact HB.out))) : w.heap.size ≤ gb285)); clear HB; have HB := n0_; have BK285 := n1_; have GW285 := n2_; have GE285 := n3_; clear n0_ n1_ n2_ n3_; clear hb hbox hg; have hcz10_0 : w9.cell? ⟨gb285, 0, none⟩ = some (.bool a0_0) := (blk_cell BK285.out 0).trans rfl; have hcz10_1 : w9.cell? ⟨gb285, 1, none⟩ = some (.bool false) := (blk_cell BK285.out 1).trans rfl; have hcz10_2 : w9.cell? ⟨gb285, 2, none⟩ = some (.bool a0_2) := (blk_cell BK285.out 2).trans rfl; have hcz10_3 : w9.cell? ⟨gb285, 3, none⟩ = some (.bool a0_3) := (blk_cell BK285.out 3).trans rfl; have hcz10_4 : w9.cell? ⟨gb285, 4, none⟩ = some (.bool a0_4) := (blk_cell BK285.out 4).trans rfl; have hcz10_5 : w9.cell? ⟨gb285, 5, none⟩ = some (.bool a0_5) := (blk_cell BK285.out 5).trans rfl; have hcz10_6 : w9.cell? ⟨gb285, 6, none⟩ = some (.int .i64 a0_6) := (blk_cell BK285.out 6).trans rfl; have hcz10_7 : w9.cell? ⟨gb285, 7, none⟩ = some (.int .i64 a0_7) := (blk_cell BK285.out 7).trans rfl; have hcz10_8 : w9.cell? ⟨gb285, 8, none⟩ = some (.int .i64 a0_8) := (blk_cell BK285.out 8).trans rfl; have hcz10_9 : w9.cell? ⟨gb285, 9, none⟩ = some (.int .i64 a0_9) := (blk_cell BK285.out 9).trans rfl; have hcz10_10 : w9.cell? ⟨gb285, 10, none⟩ = some (.int .i64 a0_10) := (blk_cell BK285.out 10).trans rfl; have hcz10_11 : w9.cell? ⟨gb285, 11, none⟩ = some (.int .i64 a0_11) := (blk_cell BK285.out 11).trans rfl; have hfz10_0 := blk_frozen BK285.out 0; have hfz10_1 := blk_frozen BK285.out 1; have hfz10_2 := blk_frozen BK285.out 2; have hfz10_3 := blk_frozen BK285.out 3; have hfz10_4 := blk_frozen BK285.out 4; have hfz10_5 := blk_frozen BK285.out 5; have hfz10_6 := blk_frozen BK285.out 6; have hfz10_7 := blk_frozen BK285.out 7; have hfz10_8 := blk_frozen BK285.out 8; have hfz10_9 := blk_frozen BK285.out 9; have hfz10_10 := blk_frozen BK285.out 10; have hfz10_11 := blk_frozen BK285.out 11))
        go_ret
        exact ⟨by first | rfl | (simp [errW_none, errW_some] <;> rfl) | (simp [*, errW_none, errW_some] <;> rfl), by repeat (first | (with_reducible first | exact HB.out | apply below_alloc | apply pw_below_drewN | apply below_drew1 | refine below_set ?_ GE285.out) | exact HB.out)⟩
    · rw [if_neg c5] at H
      have c5b0 : (a0_7 == (-1)) = false := beq_eq_false_iff_ne.mpr c5
      have c5b1 : (a0_7 != (-1)) = true := bne_iff_ne.mpr c5
      obtain rfl := Option.some.inj H
      go_enter Tryz.func40, Tryz.ntmps40
      go_wp2_with (first | ((with_reducible refine gate_dst (N := 1) rfl ?_); refine box_event ?hg (N := 1) ?hd (cs := #[.bool a0_0, .bool false, .bool a0_2, .bool a0_3, .bool a0_4, .bool a0_5, .int .i64 a0_6, .int .i64 a0_7, .int .i64 a0_8, .int .i64 a0_9, .int .i64 a0_10, .int .i64 a0_11]) (t := 43) ?hr ?_; (case hd => rfl); (case hg => rfl); (case hr => first | (go_simp; done) | (go_simp; rfl)); intro gb285 hg w11 hbox hb; have n0_ := Aside0.mk (below_step (by repeat (first | (with_reducible first | exact HB.out | apply below_alloc | apply pw_below_drewN | apply below_drew1) | exact HB.out)) hb); have n1_ := Aside0.mk (hbox); have n2_ := Aside0.mk ((by rw [hg]; exact (below_size (by repeat (first | (with_reducible first | exact HB.out | apply below_alloc | apply pw_below_drewN | apply below_drew1) | exact HB.out))) : w.heap.size ≤ gb285)); have n3_ := Aside0.mk ((by rw [hg]; exact (below_size (by repeat (first | (with_reducible first | exact HB.out | apply below_alloc | apply pw_below_drewN | apply below_drew1) | exact HB.out))) : w.heap.size ≤ gb285)); clear HB; have HB := n0_; have BK285 := n1_; have GW285 := n2_; have GE285 := n3_; clear n0_ n1_ n2_ n3_; clear hb hbox hg; have hcz12_0 : w11.cell? ⟨gb285, 0, none⟩ = some (.bool a0_0) := (blk_cell BK285.out 0).trans rfl; have hcz12_1 : w11.cell? ⟨gb285, 1, none⟩ = some (.bool false) := (blk_cell BK285.out 1).trans rfl; have hcz12_2 : w11.cell? ⟨gb285, 2, none⟩ = some (.bool a0_2) := (blk_cell BK285.out 2).trans rfl; have hcz12_3 : w11.cell? ⟨gb285, 3, none⟩ = some (.bool a0_3) := (blk_cell BK285.out 3).trans rfl; have hcz12_4 : w11.cell? ⟨gb285, 4, none⟩ = some (.bool a0_4) := (blk_cell BK285.out 4).trans rfl; have hcz12_5 : w11.cell? ⟨gb285, 5, none⟩ = some (.bool a0_5) := (blk_cell BK285.out 5).trans rfl; have hcz12_6 : w11.cell? ⟨gb285, 6, none⟩ = some (.int .i64 a0_6) := (blk_cell BK285.out 6).trans rfl; have hcz12_7 : w11.cell? ⟨gb285, 7, none⟩ = some (.int .i64 a0_7) := (blk_cell BK285.out 7).trans rfl; have hcz12_8 : w11.cell? ⟨gb285, 8, none⟩ = some (.int .i64 a0_8) := (blk_cell BK285.out 8).trans rfl; have hcz12_9 : w11.cell? ⟨gb285, 9, none⟩ = some (.int .i64 a0_9) := (blk_cell BK285.out 9).trans rfl; have hcz12_10 : w11.cell? ⟨gb285, 10, none⟩ = some (.int .i64 a0_10) := (blk_cell BK285.out 10).trans rfl; have hcz12_11 : w11.cell? ⟨gb285, 11, none⟩ = some (.int .i64 a0_11) := (blk_cell BK285.out 11).trans rfl; have hfz12_0 := blk_frozen BK285.out 0; have hfz12_1 := blk_frozen BK285.out 1; have hfz12_2 := blk_frozen BK285.out 2; have hfz12_3 := blk_frozen BK285.out 3; have hfz12_4 := blk_frozen BK285.out 4; have hfz12_5 := blk_frozen BK285.out 5; have hfz12_6 := blk_frozen BK285.out 6; have hfz12_7 := blk_frozen BK285.out 7; have hfz12_8 := blk_frozen BK285.out 8; have hfz12_9 := blk_frozen BK285.out 9; have hfz12_10 := blk_frozen BK285.out 10; have hfz12_11 := blk_frozen BK285.out 11))
      go_ret
      exact ⟨by first | rfl | (simp [errW_none, errW_some] <;> rfl) | (simp [*, errW_none, errW_some] <;> rfl), by repeat (first | (with_reducible first | exact HB.out | apply below_alloc | apply pw_below_drewN | apply below_drew1 | refine below_set ?_ GE285.out) | exact HB.out)⟩

end Go.Proofs.YthgjnpmebjlecaaGreatDoor.P
/- cache.Lifetime of a right response whose headers tell one part, 'max-age=2', and no 'vary': 2000; conditions: those that stand in the theorem. -/
namespace Go.Proofs.YthgjnpmebjlecaaGreatDoor.Ext
open Go.RowKit Go.Proofs.YthgjnpmebjlecaaGreatDoorW.PrintWords Go.Proofs.YthgjnpmebjlecaaGreatDoorW.PrintLast Go.Proofs.YthgjnpmebjlecaaGreatDoorW.PrintMore Go.Proofs.YthgjnpmebjlecaaGreatDoor.P

set_option maxHeartbeats 4000000 in
set_option maxRecDepth 100000 in
theorem life_two (st : Int) (A0 : Option Addr) (c0 : Nat) (l0 : List S49) (body : ByteArray) (w : World) (hr0 : Kd.C k49 w A0 l0.length l0) (hc0 : l0.length ≤ c0) (k : Nat)
    (h0 : message_CheckResponse.f k st l0 body = some 0) (h1 : message_Values.f k l0 ccName = some [ageTwo]) (h2 : message_Parts.f k [ageTwo] = some [ageTwo])
    (g1 : strings_Cut.f ageTwo ⟨#[61]⟩ = some (⟨#[109, 97, 120, 45, 97, 103, 101]⟩, ⟨#[50]⟩, true)) (g2 : cache_seconds.f k ⟨#[50]⟩ = some (2, true)) (g3 : message_IsToken.f k ⟨#[109, 97, 120, 45, 97, 103, 101]⟩ = some true)
    (g4 : strings_ToLower.f ⟨#[109, 97, 120, 45, 97, 103, 101]⟩ = some ⟨#[109, 97, 120, 45, 97, 103, 101]⟩) (g5 : slices_Index_string_string.f k flagNames ⟨#[109, 97, 120, 45, 97, 103, 101]⟩ = some (-1)) (g6 : slices_Index_string_string.f k numberNames ⟨#[109, 97, 120, 45, 97, 103, 101]⟩ = some 0)
    (v1 : message_Values.f k l0 varyName = some []) (v2 : message_Parts.f k [] = some []) (v3 : slices_Contains_string_string.f k [] ⟨#[42]⟩ = some false) (t1 : cache_lifetime.f false false false false false false 2 (-1) (-1) (-1) (-1) (-1) = some 2000) :
    Calls Tryz.prog 21 #[.agg #[.int .i64 st, .slice A0 l0.length c0, .string body]] w fun e w' => e = .returned (.tuple #[.int .i64 2000, .int .i64 0]) ∧ Below w.heap.size w w' := by
  have T0 := Lib.hid h0
  have T1 := Lib.hid t1
  have T2 := fun w (hr : Kd.C k49 w A0 l0.length l0) => parse_age A0 c0 l0 w hr hc0 k h1 h2 g1 g2 g3 g4 g5 g6
  have T3 := fun w (hr : Kd.C k49 w A0 l0.length l0) => vary_none st A0 c0 l0 body w hr hc0 k v1 v2 v3
  have HR := Lib.hid hr0
  have HC := Lib.hid hc0
  clear h0 h1 h2 g1 g2 g3 g4 g5 g6 v1 v2 v3 t1 hr0 hc0
  go_enter Tryz.func21, Tryz.ntmps21
  go_wp2_with fail
  have b0 : Below w.heap.size w (w.alloc (Obj.cells #[Value.int IntKind.i64 st, Value.slice A0 l0.length c0, Value.string body] 58)) := (Below.refl _ w).alloc (Nat.le_refl _) _
  have B0 := Lib.hid b0
  have z0 := blk_new w (Obj.cells #[Value.int IntKind.i64 st, Value.slice A0 l0.length c0, Value.string body] 58)
  have Z0 := Lib.hid z0
  clear b0 z0
  refine (message_CheckResponse.calls k st A0 c0 l0 body 0 _ (Kd.C_below HR.out B0.out) HC.out T0.out).mono ?_
  rintro e w1 ⟨rfl, b1⟩
  have B1 := Lib.hid (B0.out.trans (b1.mono B0.out.size))
  have z1 := blk_below Z0.out b1
  have p0 : w1.cell? ⟨w.heap.size, 0, none⟩ = some (.int .i64 st) := blk_cell z1 0
  have p1 : w1.cell? ⟨w.heap.size, 1, none⟩ = some (.slice A0 l0.length c0) := blk_cell z1 1
  have p2 : w1.cell? ⟨w.heap.size, 2, none⟩ = some (.string body) := blk_cell z1 2
  have Z1 := Lib.hid z1
  clear b1 z1
  go_wp2_with fail
  refine (T2 _ (Kd.C_below HR.out B1.out)).mono ?_
  rintro e w2 ⟨rfl, b2⟩
  have B2 := Lib.hid (B1.out.trans (b2.mono B1.out.size))
  have z2 := blk_alloc (blk_below Z1.out b2) (Obj.cells #[Value.bool false, Value.bool false, Value.bool false, Value.bool false, Value.bool false, Value.bool false, Value.int IntKind.i64 2, Value.int IntKind.i64 (-1), Value.int IntKind.i64 (-1), Value.int IntKind.i64 (-1), Value.int IntKind.i64 (-1), Value.int IntKind.i64 (-1)] 43)
  have p0 : (w2.alloc (Obj.cells #[Value.bool false, Value.bool false, Value.bool false, Value.bool false, Value.bool false, Value.bool false, Value.int IntKind.i64 2, Value.int IntKind.i64 (-1), Value.int IntKind.i64 (-1), Value.int IntKind.i64 (-1), Value.int IntKind.i64 (-1), Value.int IntKind.i64 (-1)] 43)).cell? ⟨w.heap.size, 0, none⟩ = some (.int .i64 st) := blk_cell z2 0
  have p1 : (w2.alloc (Obj.cells #[Value.bool false, Value.bool false, Value.bool false, Value.bool false, Value.bool false, Value.bool false, Value.int IntKind.i64 2, Value.int IntKind.i64 (-1), Value.int IntKind.i64 (-1), Value.int IntKind.i64 (-1), Value.int IntKind.i64 (-1), Value.int IntKind.i64 (-1)] 43)).cell? ⟨w.heap.size, 1, none⟩ = some (.slice A0 l0.length c0) := blk_cell z2 1
  have p2 : (w2.alloc (Obj.cells #[Value.bool false, Value.bool false, Value.bool false, Value.bool false, Value.bool false, Value.bool false, Value.int IntKind.i64 2, Value.int IntKind.i64 (-1), Value.int IntKind.i64 (-1), Value.int IntKind.i64 (-1), Value.int IntKind.i64 (-1), Value.int IntKind.i64 (-1)] 43)).cell? ⟨w.heap.size, 2, none⟩ = some (.string body) := blk_cell z2 2
  have B2a := Lib.hid (B2.out.alloc B2.out.size (Obj.cells #[Value.bool false, Value.bool false, Value.bool false, Value.bool false, Value.bool false, Value.bool false, Value.int IntKind.i64 2, Value.int IntKind.i64 (-1), Value.int IntKind.i64 (-1), Value.int IntKind.i64 (-1), Value.int IntKind.i64 (-1), Value.int IntKind.i64 (-1)] 43))
  have X2 := Lib.hid (blk_new w2 (Obj.cells #[Value.bool false, Value.bool false, Value.bool false, Value.bool false, Value.bool false, Value.bool false, Value.int IntKind.i64 2, Value.int IntKind.i64 (-1), Value.int IntKind.i64 (-1), Value.int IntKind.i64 (-1), Value.int IntKind.i64 (-1), Value.int IntKind.i64 (-1)] 43))
  clear b2 z2
  go_wp2_with fail
  refine (T3 _ (Kd.C_below HR.out B2a.out)).mono ?_
  rintro e w3 ⟨A3, c3, rfl, b3⟩
  have B3 := Lib.hid (B2a.out.trans (b3.mono B2a.out.size))
  have x3 := blk_below X2.out b3
  have c0 : w3.cell? ⟨w2.heap.size, 0, none⟩ = some (.bool false) := blk_cell x3 0
  have c1 : w3.cell? ⟨w2.heap.size, 1, none⟩ = some (.bool false) := blk_cell x3 1
  have c2 : w3.cell? ⟨w2.heap.size, 2, none⟩ = some (.bool false) := blk_cell x3 2
  have c3 : w3.cell? ⟨w2.heap.size, 3, none⟩ = some (.bool false) := blk_cell x3 3
  have c4 : w3.cell? ⟨w2.heap.size, 4, none⟩ = some (.bool false) := blk_cell x3 4
  have c5 : w3.cell? ⟨w2.heap.size, 5, none⟩ = some (.bool false) := blk_cell x3 5
  have c6 : w3.cell? ⟨w2.heap.size, 6, none⟩ = some (.int .i64 2) := blk_cell x3 6
  have c7 : w3.cell? ⟨w2.heap.size, 7, none⟩ = some (.int .i64 (-1)) := blk_cell x3 7
  have c8 : w3.cell? ⟨w2.heap.size, 8, none⟩ = some (.int .i64 (-1)) := blk_cell x3 8
  have c9 : w3.cell? ⟨w2.heap.size, 9, none⟩ = some (.int .i64 (-1)) := blk_cell x3 9
  have c10 : w3.cell? ⟨w2.heap.size, 10, none⟩ = some (.int .i64 (-1)) := blk_cell x3 10
  have c11 : w3.cell? ⟨w2.heap.size, 11, none⟩ = some (.int .i64 (-1)) := blk_cell x3 11
  clear b3 x3
  go_wp2_with fail
  refine (cache_lifetime.calls false false false false false false 2 (-1) (-1) (-1) (-1) (-1) 2000 _ T1.out).mono ?_
  rintro e w4 ⟨rfl, b4⟩
  have B4 := Lib.hid (B3.out.trans (b4.mono B3.out.size))
  clear b4
  go_wp2_with fail
  go_ret2
  exact ⟨rfl, B4.out⟩
end Go.Proofs.YthgjnpmebjlecaaGreatDoor.Ext
/- The machine's side, printed by a program of this session: each Go function named below comes to the Lean function of its name; conditions: those of each theorem. -/
namespace Go.Proofs.YthgjnpmebjlecaaGreatDoor.P
open Go.RowKit Go.Proofs.YthgjnpmebjlecaaGreatDoorW.PrintWords Go.Proofs.YthgjnpmebjlecaaGreatDoorW.PrintLast Go.Proofs.YthgjnpmebjlecaaGreatDoorW.PrintMore
attribute [local go_sem] max2_int min2_int max_two min_two max_three min_three max_four min_four   -- for this text's walks alone
set_option linter.unusedVariables false
set_option linter.unusedSimpArgs false

/-! ### kit_IsKey: function 34 -/
def kit_IsKey.l0 : Nat → ByteArray → Int → Option (Bool)
  | 0, _, _ => none
  | k + 1, x0, x3 => if x3 < (x0.size : Int) then (if 0 ≤ x3 then (if (bt x0 x3) ≥ 97 then (if (bt x0 x3) ≤ 122 then (kit_IsKey.l0 k x0 (wrap64 (x3 + 1))) else (if x3 > 0 then (if (bt x0 x3) ≥ 48 then (if (bt x0 x3) ≤ 57 then (kit_IsKey.l0 k x0 (wrap64 (x3 + 1))) else (if (bt x0 x3) = 45 then (kit_IsKey.l0 k x0 (wrap64 (x3 + 1))) else (if ((bt x0 x3) = 95) then (kit_IsKey.l0 k x0 (wrap64 (x3 + 1))) else (some false)))) else (if (bt x0 x3) = 45 then (kit_IsKey.l0 k x0 (wrap64 (x3 + 1))) else (if ((bt x0 x3) = 95) then (kit_IsKey.l0 k x0 (wrap64 (x3 + 1))) else (some false)))) else (some false))) else (if x3 > 0 then (if (bt x0 x3) ≥ 48 then (if (bt x0 x3) ≤ 57 then (kit_IsKey.l0 k x0 (wrap64 (x3 + 1))) else (if (bt x0 x3) = 45 then (kit_IsKey.l0 k x0 (wrap64 (x3 + 1))) else (if ((bt x0 x3) = 95) then (kit_IsKey.l0 k x0 (wrap64 (x3 + 1))) else (some false)))) else (if (bt x0 x3) = 45 then (kit_IsKey.l0 k x0 (wrap64 (x3 + 1))) else (if ((bt x0 x3) = 95) then (kit_IsKey.l0 k x0 (wrap64 (x3 + 1))) else (some false)))) else (some false))) else (none)) else (if x0.toList = ([] : List UInt8) then (some false) else (some (decide ((x0.size : Int) ≤ 40))))
def kit_IsKey.f (k : Nat) (a0 : ByteArray) : Option (Bool) := kit_IsKey.l0 k a0 0
theorem kit_IsKey.mono_l : ∀ k, (∀ y0 y1, LeO (kit_IsKey.l0 k y0 y1) (kit_IsKey.l0 (k + 1) y0 y1))
  | 0 => fun _ _ r h => by simp [kit_IsKey.l0] at h
  | k + 1 => by
    have ih0 := kit_IsKey.mono_l k
    · intro y0 y1
      unfold kit_IsKey.l0
      repeat' first
      | (with_reducible exact ih0 _ _)
      | (with_reducible exact LeO.refl _)
      | (with_reducible exact LeO.none _)
      | (with_reducible refine LeO.ite ?_ ?_)
      | (with_reducible refine LeO.bind ?_ (fun _ => ?_))
      | exact ih0 _ _
      | exact LeO.none _
      | refine LeO.ite ?_ ?_
      | refine LeO.bind ?_ (fun _ => ?_)
theorem kit_IsKey.mono : ∀ a0 k, LeO (kit_IsKey.f k a0) (kit_IsKey.f (k + 1) a0) := by
  intro a0 k
  have ih0 := kit_IsKey.mono_l k
  unfold kit_IsKey.f
  repeat' first
      | (with_reducible exact ih0 _ _)
      | (with_reducible exact LeO.refl _)
      | (with_reducible exact LeO.none _)
      | (with_reducible refine LeO.ite ?_ ?_)
      | (with_reducible refine LeO.bind ?_ (fun _ => ?_))
      | exact ih0 _ _
      | exact LeO.none _
      | refine LeO.ite ?_ ?_
      | refine LeO.bind ?_ (fun _ => ?_)
set_option maxHeartbeats 8000000 in
set_option maxRecDepth 100000 in
theorem kit_IsKey.calls (k : Nat) (a0 : ByteArray) (r : Bool) (w : World) (h : kit_IsKey.f k a0 = some r) :
    Calls Tryz.prog 34 #[.string a0] w fun e w' => e = .returned (.bool r) ∧ Drawn0 w w' := by
  have H : (kit_IsKey.l0 k a0 0) = some r := h
  clear h
  have H' := Aside0.mk H
  clear H
  go_enter Tryz.func34, Tryz.ntmps34
  go_wp2
  go_loopg [3] k (fun kq v3 w' => ∃ (x3_1 : Int), v3 = .int .i64 x3_1 ∧ Aside0 (kit_IsKey.l0 kq a0 x3_1 = some r) ∧ Aside0 (kq ≤ k) ∧ Drawn0 w w')
  case atStart => exact ⟨(0), (by first | rfl | (simp; done) | (simp [*]; done)), H', ⟨Nat.le_refl _⟩, by repeat (first | exact Drawn0.refl _ | apply Drawn0.step)⟩
  case round =>
    clear H'
    obtain ⟨x3_1, rfl, HA, HK1, ⟨m1, rfl⟩⟩ := hrel
    cases gk with
    | zero => exact absurd HA.out (by simp [kit_IsKey.l0])
    | succ k1 =>
      have H := HA.out
      clear HA
      simp only [kit_IsKey.l0] at H
      by_cases c2 : x3_1 < (a0.size : Int)
      · rw [if_pos c2] at H
        have c2b0 : decide (x3_1 < (a0.size : Int)) = true := decide_eq_true c2
        clear c2
        by_cases c3 : 0 ≤ x3_1
        · rw [if_pos c3] at H
          have c3b0 : decide (0 ≤ x3_1) = true := decide_eq_true c3
          clear c3
          by_cases c5 : (bt a0 x3_1) ≥ 97
          · rw [if_pos c5] at H
            have c5b0 : decide (97 ≤ (bt a0 x3_1)) = true := decide_eq_true c5
            clear c5
            by_cases c6 : (bt a0 x3_1) ≤ 122
            · rw [if_pos c6] at H
              have c6b0 : decide ((bt a0 x3_1) ≤ 122) = true := decide_eq_true c6
              clear c6
              have H' := Aside0.mk H
              clear H
              have p4 : 0 ≤ (x3_1 : Int) := of_decide_eq_true (by first | (with_reducible assumption) | assumption)
              have q4 : x3_1 < (a0.size : Int) := of_decide_eq_true (by first | (with_reducible assumption) | assumption)
              have hx4 := bt_at a0 x3_1
              replace p4 := eq_true p4
              replace q4 := eq_true q4
              go_wp2
              go_roundg k1
              case measure => have := HK1.out; omega
              case rel => exact ⟨(wrap64 (x3_1 + 1)), (by first | rfl | (simp; done) | (simp [*]; done)), H', ⟨by have := HK1.out; omega⟩, by repeat (first | exact Drawn0.refl _ | apply Drawn0.step)⟩
            · rw [if_neg c6] at H
              have c6b0 : decide ((bt a0 x3_1) ≤ 122) = false := decide_eq_false c6
              clear c6
              by_cases c7 : x3_1 > 0
              · rw [if_pos c7] at H
                have c7b0 : decide (0 < x3_1) = true := decide_eq_true c7
                clear c7
                by_cases c8 : (bt a0 x3_1) ≥ 48
                · rw [if_pos c8] at H
                  have c8b0 : decide (48 ≤ (bt a0 x3_1)) = true := decide_eq_true c8
                  clear c8
                  by_cases c9 : (bt a0 x3_1) ≤ 57
                  · rw [if_pos c9] at H
                    have c9b0 : decide ((bt a0 x3_1) ≤ 57) = true := decide_eq_true c9
                    clear c9
                    have H' := Aside0.mk H
                    clear H
                    have p4 : 0 ≤ (x3_1 : Int) := of_decide_eq_true (by first | (with_reducible assumption) | assumption)
                    have q4 : x3_1 < (a0.size : Int) := of_decide_eq_true (by first | (with_reducible assumption) | assumption)
                    have hx4 := bt_at a0 x3_1
                    replace p4 := eq_true p4
                    replace q4 := eq_true q4
                    go_wp2
                    go_roundg k1
                    case measure => have := HK1.out; omega
                    case rel => exact ⟨(wrap64 (x3_1 + 1)), (by first | rfl | (simp; done) | (simp [*]; done)), H', ⟨by have := HK1.out; omega⟩, by repeat (first | exact Drawn0.refl _ | apply Drawn0.step)⟩
                  · rw [if_neg c9] at H
                    have c9b0 : decide ((bt a0 x3_1) ≤ 57) = false := decide_eq_false c9
                    clear c9
                    by_cases c10 : (bt a0 x3_1) = 45
                    · rw [if_pos c10] at H
                      have c10b0 : ((bt a0 x3_1) == 45) = true := beq_iff_eq.mpr c10
                      have c10b1 : ((bt a0 x3_1) != 45) = false := bne_eq_false_iff_eq.mpr c10
                      clear c10
                      have H' := Aside0.mk H
                      clear H
                      have p4 : 0 ≤ (x3_1 : Int) := of_decide_eq_true (by first | (with_reducible assumption) | assumption)
                      have q4 : x3_1 < (a0.size : Int) := of_decide_eq_true (by first | (with_reducible assumption) | assumption)
                      have hx4 := bt_at a0 x3_1
                      replace p4 := eq_true p4
                      replace q4 := eq_true q4
                      go_wp2
                      go_roundg k1
                      case measure => have := HK1.out; omega
                      case rel => exact ⟨(wrap64 (x3_1 + 1)), (by first | rfl | (simp; done) | (simp [*]; done)), H', ⟨by have := HK1.out; omega⟩, by repeat (first | exact Drawn0.refl _ | apply Drawn0.step)⟩
                    · rw [if_neg c10] at H
                      have c10b0 : ((bt a0 x3_1) == 45) = false := beq_eq_false_iff_ne.mpr c10
                      have c10b1 : ((bt a0 x3_1) != 45) = true := bne_iff_ne.mpr c10
                      by_cases c11 : ((bt a0 x3_1) = 95)
                      · rw [if_pos c11] at H
                        have c11b0 : ((bt a0 x3_1) == 95) = true := beq_iff_eq.mpr c11
                        have c11b1 : ((bt a0 x3_1) != 95) = false := bne_eq_false_iff_eq.mpr c11
                        clear c11
                        have H' := Aside0.mk H
                        clear H
                        have p4 : 0 ≤ (x3_1 : Int) := of_decide_eq_true (by first | (with_reducible assumption) | assumption)
                        have q4 : x3_1 < (a0.size : Int) := of_decide_eq_true (by first | (with_reducible assumption) | assumption)
                        have hx4 := bt_at a0 x3_1
                        replace p4 := eq_true p4
                        replace q4 := eq_true q4
                        go_wp2
                        go_roundg k1
                        case measure => have := HK1.out; omega
                        case rel => exact ⟨(wrap64 (x3_1 + 1)), (by first | rfl | (simp; done) | (simp [*]; done)), H', ⟨by have := HK1.out; omega⟩, by repeat (first | exact Drawn0.refl _ | apply Drawn0.step)⟩
                      · rw [if_neg c11] at H
                        have c11b0 : ((bt a0 x3_1) == 95) = false := beq_eq_false_iff_ne.mpr c11
                        have c11b1 : ((bt a0 x3_1) != 95) = true := bne_iff_ne.mpr c11
                        obtain rfl := Option.some.inj H
                        have p4 : 0 ≤ (x3_1 : Int) := of_decide_eq_true (by first | (with_reducible assumption) | assumption)
                        have q4 : x3_1 < (a0.size : Int) := of_decide_eq_true (by first | (with_reducible assumption) | assumption)
                        have hx4 := bt_at a0 x3_1
                        replace p4 := eq_true p4
                        replace q4 := eq_true q4
                        go_wp2
                        go_ret
                        exact ⟨by first | rfl | (simp; done) | (simp [*]; done), by repeat (first | exact Drawn0.refl _ | apply Drawn0.step)⟩
                · rw [if_neg c8] at H
                  have c8b0 : decide (48 ≤ (bt a0 x3_1)) = false := decide_eq_false c8
                  clear c8
                  by_cases c12 : (bt a0 x3_1) = 45
                  · rw [if_pos c12] at H
                    have c12b0 : ((bt a0 x3_1) == 45) = true := beq_iff_eq.mpr c12
                    have c12b1 : ((bt a0 x3_1) != 45) = false := bne_eq_false_iff_eq.mpr c12
                    clear c12
                    have H' := Aside0.mk H
                    clear H
                    have p4 : 0 ≤ (x3_1 : Int) := of_decide_eq_true (by first | (with_reducible assumption) | assumption)
                    have q4 : x3_1 < (a0.size : Int) := of_decide_eq_true (by first | (with_reducible assumption) | assumption)
                    have hx4 := bt_at a0 x3_1
                    replace p4 := eq_true p4
                    replace q4 := eq_true q4
                    go_wp2
                    go_roundg k1
                    case measure => have := HK1.out; omega
                    case rel => exact ⟨(wrap64 (x3_1 + 1)), (by first | rfl | (simp; done) | (simp [*]; done)), H', ⟨by have := HK1.out; omega⟩, by repeat (first | exact Drawn0.refl _ | apply Drawn0.step)⟩
                  · rw [if_neg c12] at H
                    have c12b0 : ((bt a0 x3_1) == 45) = false := beq_eq_false_iff_ne.mpr c12
                    have c12b1 : ((bt a0 x3_1) != 45) = true := bne_iff_ne.mpr c12
                    by_cases c13 : ((bt a0 x3_1) = 95)
                    · rw [if_pos c13] at H
                      have c13b0 : ((bt a0 x3_1) == 95) = true := beq_iff_eq.mpr c13
                      have c13b1 : ((bt a0 x3_1) != 95) = false := bne_eq_false_iff_eq.mpr c13
                      clear c13
                      have H' := Aside0.mk H
                      clear H
                      have p4 : 0 ≤ (x3_1 : Int) := of_decide_eq_true (by first | (with_reducible assumption) | assumption)
                      have q4 : x3_1 < (a0.size : Int) := of_decide_eq_true (by first | (with_reducible assumption) | assumption)
                      have hx4 := bt_at a0 x3_1
                      replace p4 := eq_true p4
                      replace q4 := eq_true q4
                      go_wp2
                      go_roundg k1
                      case measure => have := HK1.out; omega
                      case rel => exact ⟨(wrap64 (x3_1 + 1)), (by first | rfl | (simp; done) | (simp [*]; done)), H', ⟨by have := HK1.out; omega⟩, by repeat (first | exact Drawn0.refl _ | apply Drawn0.step)⟩
                    · rw [if_neg c13] at H
                      have c13b0 : ((bt a0 x3_1) == 95) = false := beq_eq_false_iff_ne.mpr c13
                      have c13b1 : ((bt a0 x3_1) != 95) = true := bne_iff_ne.mpr c13
                      obtain rfl := Option.some.inj H
                      have p4 : 0 ≤ (x3_1 : Int) := of_decide_eq_true (by first | (with_reducible assumption) | assumption)
                      have q4 : x3_1 < (a0.size : Int) := of_decide_eq_true (by first | (with_reducible assumption) | assumption)
                      have hx4 := bt_at a0 x3_1
                      replace p4 := eq_true p4
                      replace q4 := eq_true q4
                      go_wp2
                      go_ret
                      exact ⟨by first | rfl | (simp; done) | (simp [*]; done), by repeat (first | exact Drawn0.refl _ | apply Drawn0.step)⟩
              · rw [if_neg c7] at H
                have c7b0 : decide (0 < x3_1) = false := decide_eq_false c7
                clear c7
                obtain rfl := Option.some.inj H
                have p4 : 0 ≤ (x3_1 : Int) := of_decide_eq_true (by first | (with_reducible assumption) | assumption)
                have q4 : x3_1 < (a0.size : Int) := of_decide_eq_true (by first | (with_reducible assumption) | assumption)
                have hx4 := bt_at a0 x3_1
                replace p4 := eq_true p4
                replace q4 := eq_true q4
                go_wp2
                go_ret
                exact ⟨by first | rfl | (simp; done) | (simp [*]; done), by repeat (first | exact Drawn0.refl _ | apply Drawn0.step)⟩
          · rw [if_neg c5] at H
            have c5b0 : decide (97 ≤ (bt a0 x3_1)) = false := decide_eq_false c5
            clear c5
            by_cases c14 : x3_1 > 0
            · rw [if_pos c14] at H
              have c14b0 : decide (0 < x3_1) = true := decide_eq_true c14
              clear c14
              by_cases c15 : (bt a0 x3_1) ≥ 48
              · rw [if_pos c15] at H
                have c15b0 : decide (48 ≤ (bt a0 x3_1)) = true := decide_eq_true c15
                clear c15
                by_cases c16 : (bt a0 x3_1) ≤ 57
                · rw [if_pos c16] at H
                  have c16b0 : decide ((bt a0 x3_1) ≤ 57) = true := decide_eq_true c16
                  clear c16
                  have H' := Aside0.mk H
                  clear H
                  have p4 : 0 ≤ (x3_1 : Int) := of_decide_eq_true (by first | (with_reducible assumption) | assumption)
                  have q4 : x3_1 < (a0.size : Int) := of_decide_eq_true (by first | (with_reducible assumption) | assumption)
                  have hx4 := bt_at a0 x3_1
                  replace p4 := eq_true p4
                  replace q4 := eq_true q4
                  go_wp2
                  go_roundg k1
                  case measure => have := HK1.out; omega
                  case rel => exact ⟨(wrap64 (x3_1 + 1)), (by first | rfl | (simp; done) | (simp [*]; done)), H', ⟨by have := HK1.out; omega⟩, by repeat (first | exact Drawn0.refl _ | apply Drawn0.step)⟩
                · rw [if_neg c16] at H
                  have c16b0 : decide ((bt a0 x3_1) ≤ 57) = false := decide_eq_false c16
                  clear c16
                  by_cases c17 : (bt a0 x3_1) = 45
                  · rw [if_pos c17] at H
                    have c17b0 : ((bt a0 x3_1) == 45) = true := beq_iff_eq.mpr c17
                    have c17b1 : ((bt a0 x3_1) != 45) = false := bne_eq_false_iff_eq.mpr c17
                    clear c17
                    have H' := Aside0.mk H
                    clear H
                    have p4 : 0 ≤ (x3_1 : Int) := of_decide_eq_true (by first | (with_reducible assumption) | assumption)
                    have q4 : x3_1 < (a0.size : Int) := of_decide_eq_true (by first | (with_reducible assumption) | assumption)
                    have hx4 := bt_at a0 x3_1
                    replace p4 := eq_true p4
                    replace q4 := eq_true q4
                    go_wp2
                    go_roundg k1
                    case measure => have := HK1.out; omega
                    case rel => exact ⟨(wrap64 (x3_1 + 1)), (by first | rfl | (simp; done) | (simp [*]; done)), H', ⟨by have := HK1.out; omega⟩, by repeat (first | exact Drawn0.refl _ | apply Drawn0.step)⟩
                  · rw [if_neg c17] at H
                    have c17b0 : ((bt a0 x3_1) == 45) = false := beq_eq_false_iff_ne.mpr c17
                    have c17b1 : ((bt a0 x3_1) != 45) = true := bne_iff_ne.mpr c17
                    by_cases c18 : ((bt a0 x3_1) = 95)
                    · rw [if_pos c18] at H
                      have c18b0 : ((bt a0 x3_1) == 95) = true := beq_iff_eq.mpr c18
                      have c18b1 : ((bt a0 x3_1) != 95) = false := bne_eq_false_iff_eq.mpr c18
                      clear c18
                      have H' := Aside0.mk H
                      clear H
                      have p4 : 0 ≤ (x3_1 : Int) := of_decide_eq_true (by first | (with_reducible assumption) | assumption)
                      have q4 : x3_1 < (a0.size : Int) := of_decide_eq_true (by first | (with_reducible assumption) | assumption)
                      have hx4 := bt_at a0 x3_1
                      replace p4 := eq_true p4
                      replace q4 := eq_true q4
                      go_wp2
                      go_roundg k1
                      case measure => have := HK1.out; omega
                      case rel => exact ⟨(wrap64 (x3_1 + 1)), (by first | rfl | (simp; done) | (simp [*]; done)), H', ⟨by have := HK1.out; omega⟩, by repeat (first | exact Drawn0.refl _ | apply Drawn0.step)⟩
                    · rw [if_neg c18] at H
                      have c18b0 : ((bt a0 x3_1) == 95) = false := beq_eq_false_iff_ne.mpr c18
                      have c18b1 : ((bt a0 x3_1) != 95) = true := bne_iff_ne.mpr c18
                      obtain rfl := Option.some.inj H
                      have p4 : 0 ≤ (x3_1 : Int) := of_decide_eq_true (by first | (with_reducible assumption) | assumption)
                      have q4 : x3_1 < (a0.size : Int) := of_decide_eq_true (by first | (with_reducible assumption) | assumption)
                      have hx4 := bt_at a0 x3_1
                      replace p4 := eq_true p4
                      replace q4 := eq_true q4
                      go_wp2
                      go_ret
                      exact ⟨by first | rfl | (simp; done) | (simp [*]; done), by repeat (first | exact Drawn0.refl _ | apply Drawn0.step)⟩
              · rw [if_neg c15] at H
                have c15b0 : decide (48 ≤ (bt a0 x3_1)) = false := decide_eq_false c15
                clear c15
                by_cases c19 : (bt a0 x3_1) = 45
                · rw [if_pos c19] at H
                  have c19b0 : ((bt a0 x3_1) == 45) = true := beq_iff_eq.mpr c19
                  have c19b1 : ((bt a0 x3_1) != 45) = false := bne_eq_false_iff_eq.mpr c19
                  clear c19
                  have H' := Aside0.mk H
                  clear H
                  have p4 : 0 ≤ (x3_1 : Int) := of_decide_eq_true (by first | (with_reducible assumption) | assumption)
                  have q4 : x3_1 < (a0.size : Int) := of_decide_eq_true (by first | (with_reducible assumption) | assumption)
                  have hx4 := bt_at a0 x3_1
                  replace p4 := eq_true p4
                  replace q4 := eq_true q4
                  go_wp2
                  go_roundg k1
                  case measure => have := HK1.out; omega
                  case rel => exact ⟨(wrap64 (x3_1 + 1)), (by first | rfl | (simp; done) | (simp [*]; done)), H', ⟨by have := HK1.out; omega⟩, by repeat (first | exact Drawn0.refl _ | apply Drawn0.step)⟩
                · rw [if_neg c19] at H
                  have c19b0 : ((bt a0 x3_1) == 45) = false := beq_eq_false_iff_ne.mpr c19
                  have c19b1 : ((bt a0 x3_1) != 45) = true := bne_iff_ne.mpr c19
                  by_cases c20 : ((bt a0 x3_1) = 95)
                  · rw [if_pos c20] at H
                    have c20b0 : ((bt a0 x3_1) == 95) = true := beq_iff_eq.mpr c20
                    have c20b1 : ((bt a0 x3_1) != 95) = false := bne_eq_false_iff_eq.mpr c20
                    clear c20
                    have H' := Aside0.mk H
                    clear H
                    have p4 : 0 ≤ (x3_1 : Int) := of_decide_eq_true (by first | (with_reducible assumption) | assumption)
                    have q4 : x3_1 < (a0.size : Int) := of_decide_eq_true (by first | (with_reducible assumption) | assumption)
                    have hx4 := bt_at a0 x3_1
                    replace p4 := eq_true p4
                    replace q4 := eq_true q4
                    go_wp2
                    go_roundg k1
                    case measure => have := HK1.out; omega
                    case rel => exact ⟨(wrap64 (x3_1 + 1)), (by first | rfl | (simp; done) | (simp [*]; done)), H', ⟨by have := HK1.out; omega⟩, by repeat (first | exact Drawn0.refl _ | apply Drawn0.step)⟩
                  · rw [if_neg c20] at H
                    have c20b0 : ((bt a0 x3_1) == 95) = false := beq_eq_false_iff_ne.mpr c20
                    have c20b1 : ((bt a0 x3_1) != 95) = true := bne_iff_ne.mpr c20
                    obtain rfl := Option.some.inj H
                    have p4 : 0 ≤ (x3_1 : Int) := of_decide_eq_true (by first | (with_reducible assumption) | assumption)
                    have q4 : x3_1 < (a0.size : Int) := of_decide_eq_true (by first | (with_reducible assumption) | assumption)
                    have hx4 := bt_at a0 x3_1
                    replace p4 := eq_true p4
                    replace q4 := eq_true q4
                    go_wp2
                    go_ret
                    exact ⟨by first | rfl | (simp; done) | (simp [*]; done), by repeat (first | exact Drawn0.refl _ | apply Drawn0.step)⟩
            · rw [if_neg c14] at H
              have c14b0 : decide (0 < x3_1) = false := decide_eq_false c14
              clear c14
              obtain rfl := Option.some.inj H
              have p4 : 0 ≤ (x3_1 : Int) := of_decide_eq_true (by first | (with_reducible assumption) | assumption)
              have q4 : x3_1 < (a0.size : Int) := of_decide_eq_true (by first | (with_reducible assumption) | assumption)
              have hx4 := bt_at a0 x3_1
              replace p4 := eq_true p4
              replace q4 := eq_true q4
              go_wp2
              go_ret
              exact ⟨by first | rfl | (simp; done) | (simp [*]; done), by repeat (first | exact Drawn0.refl _ | apply Drawn0.step)⟩
        · rw [if_neg c3] at H
          exact absurd H (by simp)
      · rw [if_neg c2] at H
        have c2b0 : decide (x3_1 < (a0.size : Int)) = false := decide_eq_false c2
        clear c2
        by_cases c21 : a0.toList = ([] : List UInt8)
        · rw [if_pos c21] at H
          have c21b0 : (a0.toList == ([] : List UInt8)) = true := beq_iff_eq.mpr c21
          have c21b1 : (a0.toList != ([] : List UInt8)) = false := bne_eq_false_iff_eq.mpr c21
          clear c21
          obtain rfl := Option.some.inj H
          go_wp2
          go_ret
          exact ⟨by first | rfl | (simp; done) | (simp [*]; done), by repeat (first | exact Drawn0.refl _ | apply Drawn0.step)⟩
        · rw [if_neg c21] at H
          have c21b0 : (a0.toList == ([] : List UInt8)) = false := beq_eq_false_iff_ne.mpr c21
          have c21b1 : (a0.toList != ([] : List UInt8)) = true := bne_iff_ne.mpr c21
          obtain rfl := Option.some.inj H
          go_wp2
          go_ret
          exact ⟨by first | rfl | (simp; done) | (simp [*]; done), by repeat (first | exact Drawn0.refl _ | apply Drawn0.step)⟩

end Go.Proofs.YthgjnpmebjlecaaGreatDoor.P
/- The machine's side, printed by a program of this session: each Go function named below comes to the Lean function of its name; conditions: those of each theorem. -/
namespace Go.Proofs.YthgjnpmebjlecaaGreatDoor.P
open Go.RowKit Go.Proofs.YthgjnpmebjlecaaGreatDoorW.PrintWords Go.Proofs.YthgjnpmebjlecaaGreatDoorW.PrintLast Go.Proofs.YthgjnpmebjlecaaGreatDoorW.PrintMore
attribute [local go_sem] max2_int min2_int max_two min_two max_three min_three max_four min_four   -- for this text's walks alone
set_option linter.unusedVariables false
set_option linter.unusedSimpArgs false

/-! ### portal_kindWords: function 43 -/
def portal_kindWords.f  : Option (List ByteArray) := some (([(⟨#[]⟩ : ByteArray), (⟨#[97, 115, 107]⟩ : ByteArray), (⟨#[97, 112, 112, 114, 111, 118, 101]⟩ : ByteArray), (⟨#[114, 101, 102, 117, 115, 101]⟩ : ByteArray), (⟨#[112, 97, 117, 115, 101]⟩ : ByteArray), (⟨#[114, 101, 115, 117, 109, 101]⟩ : ByteArray), (⟨#[101, 110, 100]⟩ : ByteArray)] : List ByteArray))
set_option maxHeartbeats 8000000 in
set_option maxRecDepth 100000 in
theorem portal_kindWords.calls  (r : List ByteArray) (w : World) (h : portal_kindWords.f  = some r) :
    Calls Tryz.prog 43 #[] w fun e w' => ∃ v0_ : Value, e = .returned (v0_) ∧ Kd.R Kd.string 9 w' w.heap.size (fun _ => True) v0_ r ∧ Below w.heap.size w w' := by
  have HB := Aside0.mk (Below.refl w.heap.size w)
  have H : (some (([(⟨#[]⟩ : ByteArray), (⟨#[97, 115, 107]⟩ : ByteArray), (⟨#[97, 112, 112, 114, 111, 118, 101]⟩ : ByteArray), (⟨#[114, 101, 102, 117, 115, 101]⟩ : ByteArray), (⟨#[112, 97, 117, 115, 101]⟩ : ByteArray), (⟨#[114, 101, 115, 117, 109, 101]⟩ : ByteArray), (⟨#[101, 110, 100]⟩ : ByteArray)] : List ByteArray))) = some r := h
  clear h
  obtain ⟨y304, hy304⟩ : ∃ y_ : List ByteArray, y_ = (([(⟨#[]⟩ : ByteArray), (⟨#[97, 115, 107]⟩ : ByteArray), (⟨#[97, 112, 112, 114, 111, 118, 101]⟩ : ByteArray), (⟨#[114, 101, 102, 117, 115, 101]⟩ : ByteArray), (⟨#[112, 97, 117, 115, 101]⟩ : ByteArray), (⟨#[114, 101, 115, 117, 109, 101]⟩ : ByteArray), (⟨#[101, 110, 100]⟩ : ByteArray)] : List ByteArray)) := ⟨_, rfl⟩
  replace H : (some y304) = some r := by first | (rw [hy304]; with_reducible exact H) | (have H2_ := (Option.bind_some _ _).symm.trans H; rw [hy304]; with_reducible exact H2_) | (have H2_ := (Option.bind_some _ _).symm.trans H; with_reducible exact H2_) | with_reducible exact H | (rw [hy304]; exact H) | exact H
  have Ny304 := Aside0.mk hy304
  clear hy304
  obtain rfl := Option.some.inj H
  go_enter Tryz.func43, Tryz.ntmps43
  go_wp2_with (first | ((with_reducible refine gate_dst (N := 1) rfl ?_); refine Kd.R_lit Kd.string _ 9 ?hg (N := 1) ?hd (xs := ([(⟨#[]⟩ : ByteArray), (⟨#[97, 115, 107]⟩ : ByteArray), (⟨#[97, 112, 112, 114, 111, 118, 101]⟩ : ByteArray), (⟨#[114, 101, 102, 117, 115, 101]⟩ : ByteArray), (⟨#[112, 97, 117, 115, 101]⟩ : ByteArray), (⟨#[114, 101, 115, 117, 109, 101]⟩ : ByteArray), (⟨#[101, 110, 100]⟩ : ByteArray)] : List ByteArray)) (inner := [.string (⟨#[]⟩ : ByteArray), .string (⟨#[97, 115, 107]⟩ : ByteArray), .string (⟨#[97, 112, 112, 114, 111, 118, 101]⟩ : ByteArray), .string (⟨#[114, 101, 102, 117, 115, 101]⟩ : ByteArray), .string (⟨#[112, 97, 117, 115, 101]⟩ : ByteArray), .string (⟨#[114, 101, 115, 117, 109, 101]⟩ : ByteArray), .string (⟨#[101, 110, 100]⟩ : ByteArray)]) (ok := fun _ => True) (okp := fun _ => True) ?hr ?hp (fun _ hk => hk) trivial (Below.refl _ _) (Nat.le_refl _) (by simp) ?_; (case hd => rfl); (case hg => rfl); (case hr => first | (go_simp; done) | (go_simp; rfl)); (case hp => exact (Reps.one (show Kd.M Kd.string _ _ _ (⟨#[]⟩ : ByteArray) [.string (⟨#[]⟩ : ByteArray)] from rfl) (Reps.one (show Kd.M Kd.string _ _ _ (⟨#[97, 115, 107]⟩ : ByteArray) [.string (⟨#[97, 115, 107]⟩ : ByteArray)] from rfl) (Reps.one (show Kd.M Kd.string _ _ _ (⟨#[97, 112, 112, 114, 111, 118, 101]⟩ : ByteArray) [.string (⟨#[97, 112, 112, 114, 111, 118, 101]⟩ : ByteArray)] from rfl) (Reps.one (show Kd.M Kd.string _ _ _ (⟨#[114, 101, 102, 117, 115, 101]⟩ : ByteArray) [.string (⟨#[114, 101, 102, 117, 115, 101]⟩ : ByteArray)] from rfl) (Reps.one (show Kd.M Kd.string _ _ _ (⟨#[112, 97, 117, 115, 101]⟩ : ByteArray) [.string (⟨#[112, 97, 117, 115, 101]⟩ : ByteArray)] from rfl) (Reps.one (show Kd.M Kd.string _ _ _ (⟨#[114, 101, 115, 117, 109, 101]⟩ : ByteArray) [.string (⟨#[114, 101, 115, 117, 109, 101]⟩ : ByteArray)] from rfl) (Reps.one (show Kd.M Kd.string _ _ _ (⟨#[101, 110, 100]⟩ : ByteArray) [.string (⟨#[101, 110, 100]⟩ : ByteArray)] from rfl) (Reps.none _ _))))))))); intro v305 w1 ho2 hb hg_ hnew_; clear hg_ hnew_; (first | rw [← Ny304.out] at ho2 | (simp only [Int.reduceToNat] at ho2; rw [← Ny304.out] at ho2)); have n0_ := Aside0.mk (Kd.R_lower ho2 (below_size (by repeat (first | (with_reducible first | exact HB.out | apply below_alloc | apply pw_below_drewN | apply below_drew1) | exact HB.out)))); have n1_ := Aside0.mk (below_step (by repeat (first | (with_reducible first | exact HB.out | apply below_alloc | apply pw_below_drewN | apply below_drew1) | exact HB.out)) hb); clear HB; have HO306 := n0_; have HB := n1_; clear n0_ n1_; clear hb ho2))
  go_ret
  exact ⟨_, by first | rfl | (simp [errW_none, errW_some] <;> rfl) | (simp [*, errW_none, errW_some] <;> rfl), by (with_reducible repeat (first | apply Kd.R_alloc | apply Kd.R_drewN | apply Kd.R_drew)); exact HO306.out, by repeat (first | (with_reducible first | exact HB.out | apply below_alloc | apply pw_below_drewN | apply below_drew1) | exact HB.out)⟩

end Go.Proofs.YthgjnpmebjlecaaGreatDoor.P
/- portal.Text of one event, the end of a plan: its line; conditions: those that stand in the theorems. -/
namespace Go.Proofs.YthgjnpmebjlecaaGreatDoor.Ext
open Go.RowKit Go.Proofs.YthgjnpmebjlecaaGreatDoorW.PrintWords Go.Proofs.YthgjnpmebjlecaaGreatDoorW.PrintLast Go.Proofs.YthgjnpmebjlecaaGreatDoorW.PrintMore Go.Proofs.YthgjnpmebjlecaaGreatDoor.P

set_option maxHeartbeats 4000000 in
set_option maxRecDepth 100000 in
theorem moment_five (w : World) : Calls Tryz.prog 67 #[.int .i64 5] w fun e w' => e = .returned (.bool true) ∧ w' = w := by
  go_enter Tryz.func67, Tryz.ntmps67
  go_wp2
  all_goals (go_ret; exact ⟨rfl, rfl⟩)
theorem cell_below {w w' : World} {a i : Nat} {v : Value} (hb : Below w.heap.size w w') (h : w.cell? ⟨a, i, none⟩ = some v) : w'.cell? ⟨a, i, none⟩ = some v := by
  have hlt : a < w.heap.size := by
    rcases Nat.lt_or_ge a w.heap.size with h1 | h1
    · exact h1
    · have : w.heap[a]? = none := Array.getElem?_eq_none h1
      simp [World.cell?, this] at h
  have e := hb.block a hlt
  simp only [World.cell?, e] at h ⊢
  exact h
def appA : ByteArray := ⟨#[97]⟩
def prodP : ByteArray := ⟨#[112]⟩
set_option maxHeartbeats 4000000 in
set_option maxRecDepth 100000 in
theorem form_end (g : Nat) (c0 : Nat) (w : World) (hc0 : 1 ≤ c0) (k : Nat)
    (x0 : w.cell? ⟨g, 0, none⟩ = some (.int .i64 5)) (x1 : w.cell? ⟨g, 1, none⟩ = some (.string appA)) (x2 : w.cell? ⟨g, 2, none⟩ = some (.string prodP)) (x3 : w.cell? ⟨g, 3, none⟩ = some (.int .i64 6)) (x4 : w.cell? ⟨g, 4, none⟩ = some (.string ByteArray.empty))
    (h1 : kit_IsKey.f k appA = some true) (h2 : kit_IsKey.f k prodP = some true) (h3 : kit_Outside.f 6 1 6 = some false) :
    Calls Tryz.prog 41 #[.slice (some ⟨g, 0, none⟩) 1 c0] w fun e w' => e = .returned (.int .i64 0) ∧ Below w.heap.size w w' := by
  have H1 := Lib.hid h1
  have H2 := Lib.hid h2
  have H3 := Lib.hid h3
  clear h1 h2 h3
  go_enter Tryz.func41, Tryz.ntmps41
  go_wp2_with fail
  go_loopw [10] (fun i wr => ∃ j : Nat, j ≤ 1 ∧ i = .int .i64 j ∧ Below w.heap.size w wr) (fun i _ => 1 - (intOf i).toNat)
  case atStart => exact ⟨0, by omega, rfl, Below.refl _ _⟩
  case round =>
    obtain ⟨j, hj, rfl, hbw⟩ := hrel
    by_cases hlt : j < 1
    · obtain rfl : j = 0 := by omega
      have y0 := cell_below hbw x0
      have y1 := cell_below hbw x1
      have y2 := cell_below hbw x2
      have y3 := cell_below hbw x3
      have y4 := cell_below hbw x4
      have HBW := Lib.hid hbw
      clear hbw x0 x1 x2 x3 x4
      go_wp2_with fail
      refine (moment_five _).mono ?_
      rintro e w1 ⟨rfl, rfl⟩
      go_wp2_with fail
      refine (kit_IsKey.calls k appA true _ H1.out).mono ?_
      rintro e w1 ⟨rfl, n1, rfl⟩
      go_wp2_with fail
      refine (kit_IsKey.calls k prodP true _ H2.out).mono ?_
      rintro e w2 ⟨rfl, n2, rfl⟩
      go_wp2_with fail
      refine (kit_Outside.calls 6 1 6 false _ H3.out).mono ?_
      rintro e w3 ⟨rfl, n3, rfl⟩
      go_wp2_with fail
      go_region
      all_goals go_wp2_with fail
      exact ⟨⟨1, by omega, rfl, pw_below_drewN (HBW.out.alloc HBW.out.size _) _⟩, by simp [intOf]⟩
    · obtain rfl : j = 1 := by omega
      go_wp2_with fail
      go_ret
      exact ⟨rfl, hbw⟩

def kindList : List ByteArray := [⟨#[]⟩, ⟨#[97, 115, 107]⟩, ⟨#[97, 112, 112, 114, 111, 118, 101]⟩, ⟨#[114, 101, 102, 117, 115, 101]⟩, ⟨#[112, 97, 117, 115, 101]⟩, ⟨#[114, 101, 115, 117, 109, 101]⟩, ⟨#[101, 110, 100]⟩]
def TextI (w : World) (b : Nat) (bs : List Value) (w' : World) : Prop := Lib.IsBuilderF 93 5 w.heap.size b bs w' ∧ Below w.heap.size w w'
theorem TextI.below {w W W' : World} {b : Nat} {bs : List Value} (h : TextI w b bs W) (hb : Below W.heap.size W W') : TextI w b bs W' := ⟨h.1.below hb, h.2.trans (hb.mono h.2.size)⟩
theorem TextI.drewN {w W : World} {b : Nat} {bs : List Value} (h : TextI w b bs W) (n : Nat) : TextI w b bs (W.drewN n) := h.below (pw_below_drewN (Below.refl _ _) n)
theorem text_string (w : World) (b : Nat) (bs : List Value) (s : ByteArray) (W : World) (h : TextI w b bs W) (hl : bs.length + s.size ≤ 140737488355328) :
    Calls Tryz.prog 42 #[.pointer (some ⟨b, 0, none⟩), .string s] W fun e W' => e = .returned (.tuple #[.int .i64 s.size, .nilIface]) ∧ TextI w b (bs ++ Lib.strCells s) W' ∧ Lib.OthersKept 5 (some b) W W' :=
  (Any.Builder_WriteString_k Tryz.laysb166 Tryz.Builder_Extra_166 w.heap.size b bs s W h.1 hl h.2.size).mono fun _ _ ⟨he, h1, h2, h3⟩ => ⟨he, ⟨.inr h1, h.2.trans h2⟩, h3⟩
theorem text_byte (w : World) (b : Nat) (bs : List Value) (c : Int) (W : World) (h : TextI w b bs W) (hl : bs.length + 1 ≤ 140737488355328) :
    Calls Tryz.prog 44 #[.pointer (some ⟨b, 0, none⟩), .int .u8 c] W fun e W' => e = .returned .nilIface ∧ TextI w b (bs ++ [.int .u8 c]) W' ∧ Lib.OthersKept 5 (some b) W W' :=
  (Any.Builder_WriteByte_k Tryz.laysb167 Tryz.Builder_Extra_167 w.heap.size b bs c W h.1 hl h.2.size).mono fun _ _ ⟨he, h1, h2, h3⟩ => ⟨he, ⟨.inr h1, h.2.trans h2⟩, h3⟩
theorem text_done (w : World) (b : Nat) (l : List UInt8) (W : World) (h : TextI w b (Lib.byteCells l) W) (hl : l ≠ []) :
    Calls Tryz.prog 45 #[.pointer (some ⟨b, 0, none⟩)] W fun e W' => e = .returned (.string ⟨l.toArray⟩) ∧ Below w.heap.size w W' :=
  (Any.Builder_String_k Tryz.lays169 Tryz.Builder_Extra_169 w.heap.size b l W h.1 hl).mono fun _ _ ⟨he, _, h2, _⟩ => ⟨he, h.2.trans h2⟩
def evObj : Obj := .cells #[.int .i64 5, .string appA, .string prodP, .int .i64 6, .string ByteArray.empty] 61 (0, 0)
def EvAt (g : Nat) (w : World) : Prop := w.heap[g]? = some evObj
def EvS (g : Nat) (w : World) : Prop := w.cell? ⟨g, 0, none⟩ = some (.int .i64 5) ∧ w.cell? ⟨g, 1, none⟩ = some (.string appA) ∧ w.cell? ⟨g, 2, none⟩ = some (.string prodP) ∧ w.cell? ⟨g, 3, none⟩ = some (.int .i64 6) ∧ EvAt g w
theorem ev_all {g : Nat} {w : World} (h : EvAt g w) : w.cell? ⟨g, 0, none⟩ = some (.int .i64 5) ∧ w.cell? ⟨g, 1, none⟩ = some (.string ⟨#[97]⟩) ∧ w.cell? ⟨g, 2, none⟩ = some (.string ⟨#[112]⟩) ∧ w.cell? ⟨g, 3, none⟩ = some (.int .i64 6) ∧ EvAt g w :=
  ⟨blk_cell h 0, blk_cell h 1, blk_cell h 2, blk_cell h 3, h⟩
theorem EvAt.below {g : Nat} {w w' : World} (h : EvAt g w) (hb : Below w.heap.size w w') : EvAt g w' := blk_below h hb
theorem EvAt.drewN {g : Nat} {w : World} (h : EvAt g w) (n : Nat) : EvAt g (w.drewN n) := h
theorem cell_drewN_ {w : World} {a : Addr} {v : Value} (h : w.cell? a = some v) (n : Nat) : (w.drewN n).cell? a = some v := h
theorem TextI.drew {w W : World} {b : Nat} {bs : List Value} (h : TextI w b bs W) : TextI w b bs W.drew := h.below (Below.drew (Below.refl _ _))
theorem words_row {w : World} {base : Nat} {v : Value} (hr : Kd.R Kd.string 9 w base (fun _ => True) v kindList) : ∃ g2 c2, v = .slice (some ⟨g2, 0, none⟩) 7 c2 ∧ 7 ≤ c2 ∧ w.cell? ⟨g2, 6, none⟩ = some (.string ⟨#[101, 110, 100]⟩) := by
  obtain ⟨A2, c2, rfl, l2, q2⟩ := Kd.R_reads hr
  obtain ⟨ad, e2, x6⟩ := Kd.at_string q2 6 (by omega) (by decide)
  cases e2
  obtain ⟨g2, rfl⟩ := Kd.R_head hr
  exact ⟨g2, c2, rfl, l2, x6⟩
theorem EvAt.drew {g : Nat} {w : World} (h : EvAt g w) : EvAt g w.drew := h
def lineCells : List Value := Lib.byteCells [53, 32, 97, 32, 112, 32, 101, 110, 100, 10]
set_option maxHeartbeats 4000000 in
set_option maxRecDepth 100000 in
theorem text_end (g : Nat) (c0 : Nat) (w : World) (hc0 : 1 ≤ c0) (k : Nat)
    (x0 : w.cell? ⟨g, 0, none⟩ = some (.int .i64 5)) (x1 : w.cell? ⟨g, 1, none⟩ = some (.string appA)) (x2 : w.cell? ⟨g, 2, none⟩ = some (.string prodP)) (x3 : w.cell? ⟨g, 3, none⟩ = some (.int .i64 6)) (x4 : w.cell? ⟨g, 4, none⟩ = some (.string ByteArray.empty))
    (h1 : kit_IsKey.f k appA = some true) (h2 : kit_IsKey.f k prodP = some true) (h3 : kit_Outside.f 6 1 6 = some false) (h4 : strconv_Itoa.f 5 = some ⟨#[53]⟩) (h5 : portal_kindWords.f = some kindList) :
    Calls Tryz.prog 22 #[.slice (some ⟨g, 0, none⟩) 1 c0] w fun e w' => e = .returned (.tuple #[.string ⟨#[53, 32, 97, 32, 112, 32, 101, 110, 100, 10]⟩, .int .i64 0]) ∧ Below w.heap.size w w' := by
  have FF := form_end g c0 w hc0 k x0 x1 x2 x3 x4 h1 h2 h3
  have HI := Lib.hid h4
  have HK := Lib.hid h5
  clear h1 h2 h3 h4 h5
  go_enter Tryz.func22, Tryz.ntmps22
  go_wp2_with fail
  refine FF.mono ?_
  rintro e w1 ⟨rfl, b1⟩
  have y0 := cell_below b1 x0
  have y1 := cell_below b1 x1
  have y2 := cell_below b1 x2
  have y3 := cell_below b1 x3
  have y4 := cell_below b1 x4
  go_wp2_with fail
  have hB0 : Lib.IsBuilderF 93 5 w.heap.size w1.heap.size [] (w1.alloc (Obj.cells #[Value.pointer none, Value.slice none 0 0] 93)) :=
    Lib.IsBuilderF.of (.inl ⟨b1.size, .slice none 0 0, blk_new _ _, own_nil _ _ _ _, by simp [Value.ownBlock]⟩)
  have hBl : Below w.heap.size w (w1.alloc (Obj.cells #[Value.pointer none, Value.slice none 0 0] 93)) := b1.alloc b1.size _
  have HB0 := Lib.hid hB0
  have HBl := Lib.hid hBl
  clear hB0 hBl
  go_loopw [15] (fun i wr => ∃ j : Nat, j ≤ 1 ∧ i = .int .i64 j ∧ TextI w w1.heap.size (if j = 0 then [] else lineCells) wr) (fun i _ => 1 - (intOf i).toNat)
  case atStart => exact ⟨0, by omega, rfl, HB0.out, HBl.out⟩
  case round =>
    obtain ⟨j, hj, rfl, hti⟩ := hrel
    by_cases hlt : j < 1
    · obtain rfl : j = 0 := by omega
      have z0 := cell_below hti.2 x0
      have z1 := cell_below hti.2 x1
      have z2 := cell_below hti.2 x2
      have z3 := cell_below hti.2 x3
      have z4 := cell_below hti.2 x4
      have HTI := Lib.hid hti
      clear hti x0 x1 x2 x3 x4 y0 y1 y2 y3 y4
      go_wp2_with fail
      have hev : EvAt wr.heap.size (wr.alloc (Obj.cells #[.int .i64 5, .string appA, .string prodP, .int .i64 6, .string ByteArray.empty] 61)) := blk_new _ _
      have hti : TextI w w1.heap.size [] (wr.alloc (Obj.cells #[.int .i64 5, .string appA, .string prodP, .int .i64 6, .string ByteArray.empty] 61)) := HTI.out.below ((Below.refl _ _).alloc (Nat.le_refl _) _)
      have hne : some wr.heap.size ≠ some w1.heap.size := by
        have := HTI.out.1.elim (fun x => x.lt) (fun x => x.lt)
        simp; omega
      --REGION
      refine start_ (n := 19) (S := fun w' => w'.cell? ⟨wr.heap.size, 0, none⟩ = some (.int .i64 5) ∧ w'.cell? ⟨wr.heap.size, 1, none⟩ = some (.string ⟨#[97]⟩) ∧ w'.cell? ⟨wr.heap.size, 2, none⟩ = some (.string ⟨#[112]⟩) ∧ w'.cell? ⟨wr.heap.size, 3, none⟩ = some (.int .i64 6) ∧ EvAt wr.heap.size w') (ds := []) #[false, false, false, false, false, false, false, false, false, false, false, false, false, false, false, false, false, false, false] (by kernel_rfl) rfl rfl (ev_all hev) (fun hHeld => ?_)
      refine pure_ (i := 0) (N := some 19) (v := ?_) (a' := ?_) #[true, false, false, false, false, false, false, false, false, false, false, false, false, false, false, false, false, false, false] rfl rfl (by kernel_rfl) (fun _ _ _ h => h) (Or.inl ⟨by rfl, ?_⟩) ?_ ?_
      rotate_left
      · intro w'
        go_simp
        with_reducible rfl
      rotate_left
      · simp only [Act.put, List.setIfInBounds_toArray, List.set_cons_zero, List.set_cons_succ]
        rfl
      refine pure_ (i := 4) (N := some 23) (v := ?_) (a' := ?_) #[true, false, false, false, true, false, false, false, false, false, false, false, false, false, false, false, false, false, false] rfl rfl (by kernel_rfl) (fun _ _ _ h => h) (Or.inl ⟨by rfl, ?_⟩) ?_ ?_
      rotate_left
      · intro w'
        go_simp
        with_reducible rfl
      rotate_left
      · simp only [Act.put, List.setIfInBounds_toArray, List.set_cons_zero, List.set_cons_succ]
        rfl
      refine pure_ (i := 8) (N := some 27) (v := ?_) (a' := ?_) #[true, false, false, false, true, false, false, false, true, false, false, false, false, false, false, false, false, false, false] rfl rfl (by kernel_rfl) (fun _ _ _ h => h) (Or.inl ⟨by rfl, ?_⟩) ?_ ?_
      rotate_left
      · intro w'
        go_simp
        with_reducible rfl
      rotate_left
      · simp only [Act.put, List.setIfInBounds_toArray, List.set_cons_zero, List.set_cons_succ]
        rfl
      refine pure_ (i := 13) (N := some 32) (v := ?_) (a' := ?_) #[true, false, false, false, true, false, false, false, true, false, false, false, false, true, false, false, false, false, false] rfl rfl (by kernel_rfl) (fun _ _ _ h => h) (Or.inl ⟨by rfl, ?_⟩) ?_ ?_
      rotate_left
      · intro w'
        go_simp
        with_reducible rfl
      rotate_left
      · simp only [Act.put, List.setIfInBounds_toArray, List.set_cons_zero, List.set_cons_succ]
        rfl
      refine take_ (i := 1) (N := some 20) (v := ?_) (a' := ?_) #[true, true, false, false, true, false, false, false, true, false, false, false, false, true, false, false, false, false, false] rfl rfl (by kernel_rfl) (fun _ _ _ h => h) (Or.inl ⟨by rfl, ?_⟩) hHeld ?_ ?_
      rotate_left
      · rintro w' ⟨s0, s1, s2, s3, s4⟩
        go_simp
        with_reducible rfl
      rotate_left
      · simp only [Act.put, List.setIfInBounds_toArray, List.set_cons_zero, List.set_cons_succ]
        rfl
      refine take_ (i := 5) (N := some 24) (v := ?_) (a' := ?_) #[true, true, false, false, true, true, false, false, true, false, false, false, false, true, false, false, false, false, false] rfl rfl (by kernel_rfl) (fun _ _ _ h => h) (Or.inl ⟨by rfl, ?_⟩) hHeld ?_ ?_
      rotate_left
      · rintro w' ⟨s0, s1, s2, s3, s4⟩
        go_simp
        with_reducible rfl
      rotate_left
      · simp only [Act.put, List.setIfInBounds_toArray, List.set_cons_zero, List.set_cons_succ]
        rfl
      refine take_ (i := 9) (N := some 28) (v := ?_) (a' := ?_) #[true, true, false, false, true, true, false, false, true, true, false, false, false, true, false, false, false, false, false] rfl rfl (by kernel_rfl) (fun _ _ _ h => h) (Or.inl ⟨by rfl, ?_⟩) hHeld ?_ ?_
      rotate_left
      · rintro w' ⟨s0, s1, s2, s3, s4⟩
        go_simp
        with_reducible rfl
      rotate_left
      · simp only [Act.put, List.setIfInBounds_toArray, List.set_cons_zero, List.set_cons_succ]
        rfl
      refine take_ (i := 14) (N := some 33) (v := ?_) (a' := ?_) #[true, true, false, false, true, true, false, false, true, true, false, false, false, true, true, false, false, false, false] rfl rfl (by kernel_rfl) (fun _ _ _ h => h) (Or.inl ⟨by rfl, ?_⟩) hHeld ?_ ?_
      rotate_left
      · rintro w' ⟨s0, s1, s2, s3, s4⟩
        go_simp
        with_reducible rfl
      rotate_left
      · simp only [Act.put, List.setIfInBounds_toArray, List.set_cons_zero, List.set_cons_succ]
        rfl
      refine one_ (i := 2) (N := some 21) #[true, true, true, false, true, true, false, false, true, true, false, false, false, true, true, false, false, false, false] rfl rfl (by kernel_rfl) (by decide) (fun K hK => ?_)
      refine goes_ Tryz.func30 (by kernel_rfl) rfl #[.int .i64 5] (by rfl) rfl rfl (by (try simp only [List.map_toArray, List.map_cons, List.map_nil]); first | done | rfl) ?_
      refine (strconv_Itoa.calls 5 ⟨#[53]⟩ _ HI.out).mono ?_
      rintro e w' ⟨rfl, n0, rfl⟩
      refine ⟨_, rfl, ?_⟩
      refine hK.out _ _ (ev_all (EvAt.drewN (EvAt.drew hev) n0)) (fun hHeld => ?_)
      clear hK K
      refine norm_ (a' := ?_) ?_ ?_
      rotate_left
      · show Act.put _ (some 21) _ = _
        simp only [Act.put, List.setIfInBounds_toArray, List.set_cons_zero, List.set_cons_succ]
        rfl
      refine pure_ (i := 3) (N := some 22) (v := ?_) (a' := ?_) #[true, true, true, true, true, true, false, false, true, true, false, false, false, true, true, false, false, false, false] rfl rfl (by kernel_rfl) (fun _ _ _ h => h) (Or.inl ⟨by rfl, ?_⟩) ?_ ?_
      rotate_left
      · intro w'
        go_simp
        with_reducible rfl
      rotate_left
      · simp only [Act.put, List.setIfInBounds_toArray, List.set_cons_zero, List.set_cons_succ]
        rfl
      refine pure_ (i := 6) (N := some 25) (v := ?_) (a' := ?_) #[true, true, true, true, true, true, true, false, true, true, false, false, false, true, true, false, false, false, false] rfl rfl (by kernel_rfl) (fun _ _ _ h => h) (Or.inl ⟨by rfl, ?_⟩) ?_ ?_
      rotate_left
      · intro w'
        go_simp
        with_reducible rfl
      rotate_left
      · simp only [Act.put, List.setIfInBounds_toArray, List.set_cons_zero, List.set_cons_succ]
        rfl
      refine pure_ (i := 7) (N := some 26) (v := ?_) (a' := ?_) #[true, true, true, true, true, true, true, true, true, true, false, false, false, true, true, false, false, false, false] rfl rfl (by kernel_rfl) (fun _ _ _ h => h) (Or.inl ⟨by rfl, ?_⟩) ?_ ?_
      rotate_left
      · intro w'
        go_simp
        with_reducible rfl
      rotate_left
      · simp only [Act.put, List.setIfInBounds_toArray, List.set_cons_zero, List.set_cons_succ]
        rfl
      refine pure_ (i := 10) (N := some 29) (v := ?_) (a' := ?_) #[true, true, true, true, true, true, true, true, true, true, true, false, false, true, true, false, false, false, false] rfl rfl (by kernel_rfl) (fun _ _ _ h => h) (Or.inl ⟨by rfl, ?_⟩) ?_ ?_
      rotate_left
      · intro w'
        go_simp
        with_reducible rfl
      rotate_left
      · simp only [Act.put, List.setIfInBounds_toArray, List.set_cons_zero, List.set_cons_succ]
        rfl
      refine pure_ (i := 11) (N := some 30) (v := ?_) (a' := ?_) #[true, true, true, true, true, true, true, true, true, true, true, true, false, true, true, false, false, false, false] rfl rfl (by kernel_rfl) (fun _ _ _ h => h) (Or.inl ⟨by rfl, ?_⟩) ?_ ?_
      rotate_left
      · intro w'
        go_simp
        with_reducible rfl
      rotate_left
      · simp only [Act.put, List.setIfInBounds_toArray, List.set_cons_zero, List.set_cons_succ]
        rfl
      refine one_ (i := 12) (N := some 31) #[true, true, true, true, true, true, true, true, true, true, true, true, true, true, true, false, false, false, false] rfl rfl (by kernel_rfl) (by decide) (fun K hK => ?_)
      refine goes_ Tryz.func43 (by kernel_rfl) rfl #[] (by rfl) rfl rfl (by (try simp only [List.map_toArray, List.map_cons, List.map_nil]); first | done | rfl) ?_
      refine (portal_kindWords.calls _ _ HK.out).mono ?_
      rintro e w2 ⟨v, rfl, hr, hb⟩
      have hev2 : EvAt wr.heap.size w2 := EvAt.below (EvAt.drewN (EvAt.drew hev) n0) hb
      have ht2 : TextI w w1.heap.size [] w2 := TextI.below (TextI.drewN (TextI.drew hti) n0) hb
      obtain ⟨g2, c2, hv, hc2, x6⟩ := words_row hr
      subst hv
      clear hr hb
      refine ⟨_, rfl, ?_⟩
      refine hK.out _ _ (ev_all hev2) (fun hHeld => ?_)
      clear hK K
      refine norm_ (a' := ?_) ?_ ?_
      rotate_left
      · show Act.put _ (some 31) _ = _
        simp only [Act.put, List.setIfInBounds_toArray, List.set_cons_zero, List.set_cons_succ]
        rfl
      refine pure_ (i := 15) (N := some 34) (v := ?_) (a' := ?_) #[true, true, true, true, true, true, true, true, true, true, true, true, true, true, true, true, false, false, false] rfl rfl (by kernel_rfl) (fun _ _ _ h => h) (Or.inl ⟨by rfl, ?_⟩) ?_ ?_
      rotate_left
      · intro w'
        go_simp
        with_reducible rfl
      rotate_left
      · simp only [Act.put, List.setIfInBounds_toArray, List.set_cons_zero, List.set_cons_succ]
        rfl
      refine one_ (i := 16) (N := some 35) #[true, true, true, true, true, true, true, true, true, true, true, true, true, true, true, true, true, false, false] rfl rfl (by kernel_rfl) (by decide) (fun K hK => ?_)
      have x6' := x6
      refine value_ (w1 := w2) (v := .string ⟨#[101, 110, 100]⟩) (by rfl) rfl (by go_simp) ?_
      refine hK.out _ _ (ev_all hev2) (fun hHeld => ?_)
      clear hK K
      refine norm_ (a' := ?_) ?_ ?_
      rotate_left
      · show Act.put _ (some 35) _ = _
        simp only [Act.put, List.setIfInBounds_toArray, List.set_cons_zero, List.set_cons_succ]
        rfl
      refine pure_ (i := 17) (N := some 36) (v := ?_) (a' := ?_) #[true, true, true, true, true, true, true, true, true, true, true, true, true, true, true, true, true, true, false] rfl rfl (by kernel_rfl) (fun _ _ _ h => h) (Or.inl ⟨by rfl, ?_⟩) ?_ ?_
      rotate_left
      · intro w'
        go_simp
        with_reducible rfl
      rotate_left
      · simp only [Act.put, List.setIfInBounds_toArray, List.set_cons_zero, List.set_cons_succ]
        rfl
      refine one_ (i := 18) (N := some 37) #[true, true, true, true, true, true, true, true, true, true, true, true, true, true, true, true, true, true, true] rfl rfl (by kernel_rfl) (by decide) (fun K hK => ?_)
      refine goes_ Tryz.func42 (by kernel_rfl) rfl #[.pointer (some ⟨w1.heap.size, 0, none⟩), .string ((⟨#[53]⟩ : ByteArray) ++ ⟨#[32]⟩ ++ ⟨#[97]⟩ ++ ⟨#[32]⟩ ++ ⟨#[112]⟩ ++ ⟨#[32]⟩ ++ ⟨#[101, 110, 100]⟩)] (by rfl) rfl rfl (by (try simp only [List.map_toArray, List.map_cons, List.map_nil]); first | done | rfl) ?_
      refine (text_string w w1.heap.size [] _ _ ht2 (by decide)).mono ?_
      rintro e w3 ⟨rfl, ht3, ho3⟩
      have hev3 : EvAt wr.heap.size w3 := ho3 _ _ hev2 hne (by simp [evObj])
      refine ⟨_, rfl, ?_⟩
      refine hK.out _ _ (ev_all hev3) (fun hHeld => ?_)
      clear hK K
      refine norm_ (a' := ?_) ?_ ?_
      rotate_left
      · show Act.put _ (some 37) _ = _
        simp only [Act.put, List.setIfInBounds_toArray, List.set_cons_zero, List.set_cons_succ]
        rfl
      refine done_ (by kernel_rfl) ?_
      have y3 : w3.cell? ⟨wr.heap.size, 3, none⟩ = some (.int .i64 6) := blk_cell hev3 3
      go_wp2_with fail
      refine (text_byte w _ _ 10 _ ht3 (by decide)).mono ?_
      rintro e w4 ⟨rfl, ht4, ho4⟩
      go_wp2_with fail
      go_roundw
      case rel => exact ⟨1, by omega, rfl, ht4⟩
      case measure => simp [intOf]
      --END
    · obtain rfl : j = 1 := by omega
      have HTI := Lib.hid hti
      clear hti
      go_wp2_with fail
      refine (text_done w _ _ _ HTI.out (by simp)).mono ?_
      rintro e w4 ⟨rfl, hb4⟩
      go_wp2_with fail
      go_ret2
      exact ⟨rfl, hb4⟩
end Go.Proofs.YthgjnpmebjlecaaGreatDoor.Ext
/- The machine's side, printed by a program of this session: each Go function named below comes to the Lean function of its name; conditions: those of each theorem. -/
namespace Go.Proofs.YthgjnpmebjlecaaGreatDoor.P
open Go.RowKit Go.Proofs.YthgjnpmebjlecaaGreatDoorW.PrintWords Go.Proofs.YthgjnpmebjlecaaGreatDoorW.PrintLast Go.Proofs.YthgjnpmebjlecaaGreatDoorW.PrintMore
attribute [local go_sem] max2_int min2_int max_two min_two max_three min_three max_four min_four   -- for this text's walks alone
set_option linter.unusedVariables false
set_option linter.unusedSimpArgs false

/-! ### strings_HasPrefix: function 56 -/
def strings_HasPrefix.f (a0 : ByteArray) (a1 : ByteArray) : Option (Bool) := (stringslite_HasPrefix.f a0 a1).bind fun t197 => (some t197)
set_option maxHeartbeats 8000000 in
set_option maxRecDepth 100000 in
theorem strings_HasPrefix.calls (a0 : ByteArray) (a1 : ByteArray) (r : Bool) (w : World) (h : strings_HasPrefix.f a0 a1 = some r) :
    Calls Tryz.prog 56 #[.string a0, .string a1] w fun e w' => e = .returned (.bool r) ∧ Drawn0 w w' := by
  have H : ((stringslite_HasPrefix.f a0 a1).bind fun t197 => (some t197)) = some r := h
  clear h
  replace H := Option.bind_eq_some_iff.mp H
  obtain ⟨t197, A30, H⟩ := H
  replace H : (some t197) = some r := H
  have A3 := Aside0.mk A30
  clear A30
  obtain rfl := Option.some.inj H
  go_enter Tryz.func56, Tryz.ntmps56
  go_wp2_with (first | ((with_reducible refine gate_callee (f := 89) rfl ?_); refine goesL_ (some 7) rfl rfl Tryz.func89 (by kernel_rfl) rfl #[.string a0, .string a1] rfl (by (try simp only [List.map_toArray, List.map_cons, List.map_nil]); first | done | rfl | (simp only [List.length_drop, List.length_take]; rfl)) ?_; (with_reducible refine (stringslite_HasPrefix.calls a0 a1 t197 _ A3.out).mono ?_); rintro e w' ⟨rfl, ⟨nd, rfl⟩⟩; refine ⟨_, rfl, ?_⟩))
  go_ret
  exact ⟨by first | rfl | (simp; done) | (simp [*]; done), by repeat (first | exact Drawn0.refl _ | apply Drawn0.step)⟩

end Go.Proofs.YthgjnpmebjlecaaGreatDoor.P
/- The machine's side, printed by a program of this session: each Go function named below comes to the Lean function of its name; conditions: those of each theorem. -/
namespace Go.Proofs.YthgjnpmebjlecaaGreatDoor.P
open Go.RowKit Go.Proofs.YthgjnpmebjlecaaGreatDoorW.PrintWords Go.Proofs.YthgjnpmebjlecaaGreatDoorW.PrintLast Go.Proofs.YthgjnpmebjlecaaGreatDoorW.PrintMore
attribute [local go_sem] max2_int min2_int max_two min_two max_three min_three max_four min_four   -- for this text's walks alone
set_option linter.unusedVariables false
set_option linter.unusedSimpArgs false

/-! ### message_PathFault: function 35 -/
def message_PathFault.f (k : Nat) (a0 : ByteArray) : Option (Int) := if (a0.size : Int) > 1000 then (some 3) else ((strings_HasPrefix.f a0 (⟨#[47]⟩ : ByteArray)).bind fun t198 => (if t198 = true then ((message_isRange.f k a0 33 126).bind fun t199 => (if t199 = true then ((Ext.strings_ContainsAny.f a0 (⟨#[63, 35]⟩ : ByteArray)).bind fun t200 => (if t200 = true then (some 3) else (some 0))) else (some 3))) else (some 3)))
theorem message_PathFault.mono : ∀ a0 k, LeO (message_PathFault.f k a0) (message_PathFault.f (k + 1) a0) := by
  intro a0 k
  unfold message_PathFault.f
  repeat' first
      | (with_reducible exact message_isRange.mono _ _ _ _)
      | (with_reducible exact LeO.refl _)
      | (with_reducible exact LeO.none _)
      | (with_reducible refine LeO.ite ?_ ?_)
      | (with_reducible refine LeO.bind ?_ (fun _ => ?_))
      | exact message_isRange.mono _ _ _ _
      | exact LeO.none _
      | refine LeO.ite ?_ ?_
      | refine LeO.bind ?_ (fun _ => ?_)
set_option maxHeartbeats 8000000 in
set_option maxRecDepth 100000 in
theorem message_PathFault.calls (k : Nat) (a0 : ByteArray) (r : Int) (w : World) (h : message_PathFault.f k a0 = some r) :
    Calls Tryz.prog 35 #[.string a0] w fun e w' => e = .returned (.int .i64 r) ∧ Below w.heap.size w w' := by
  have HB := Aside0.mk (Below.refl w.heap.size w)
  have H : (if (a0.size : Int) > 1000 then (some 3) else ((strings_HasPrefix.f a0 (⟨#[47]⟩ : ByteArray)).bind fun t198 => (if t198 = true then ((message_isRange.f k a0 33 126).bind fun t199 => (if t199 = true then ((Ext.strings_ContainsAny.f a0 (⟨#[63, 35]⟩ : ByteArray)).bind fun t200 => (if t200 = true then (some 3) else (some 0))) else (some 3))) else (some 3)))) = some r := h
  clear h
  by_cases c2 : (a0.size : Int) > 1000
  · rw [if_pos c2] at H
    have c2b0 : decide (1000 < (a0.size : Int)) = true := decide_eq_true c2
    have c2b1 : decide (1000 < a0.size) = true := decide_eq_true (by omega)
    clear c2
    obtain rfl := Option.some.inj H
    go_enter Tryz.func35, Tryz.ntmps35
    go_wp2
    go_ret
    exact ⟨by first | rfl | (simp [errW_none, errW_some] <;> rfl) | (simp [*, errW_none, errW_some] <;> rfl), by repeat (first | (with_reducible first | exact HB.out | apply below_alloc | apply pw_below_drewN | apply below_drew1) | exact HB.out)⟩
  · rw [if_neg c2] at H
    have c2b0 : decide (1000 < (a0.size : Int)) = false := decide_eq_false c2
    have c2b1 : decide (1000 < a0.size) = false := decide_eq_false (by omega)
    clear c2
    replace H := Option.bind_eq_some_iff.mp H
    obtain ⟨t198, A30, H⟩ := H
    replace H : (if t198 = true then ((message_isRange.f k a0 33 126).bind fun t199 => (if t199 = true then ((Ext.strings_ContainsAny.f a0 (⟨#[63, 35]⟩ : ByteArray)).bind fun t200 => (if t200 = true then (some 3) else (some 0))) else (some 3))) else (some 3)) = some r := H
    have A3 := Aside0.mk A30
    clear A30
    by_cases c4 : t198 = true
    · subst c4
      have H1 : ((message_isRange.f k a0 33 126).bind fun t199 => (if t199 = true then ((Ext.strings_ContainsAny.f a0 (⟨#[63, 35]⟩ : ByteArray)).bind fun t200 => (if t200 = true then (some 3) else (some 0))) else (some 3))) = some r := by rw [if_pos rfl] at H; exact H
      clear H
      have H := H1
      clear H1
      replace H := Option.bind_eq_some_iff.mp H
      obtain ⟨t199, A50, H⟩ := H
      replace H : (if t199 = true then ((Ext.strings_ContainsAny.f a0 (⟨#[63, 35]⟩ : ByteArray)).bind fun t200 => (if t200 = true then (some 3) else (some 0))) else (some 3)) = some r := H
      have A5 := Aside0.mk A50
      clear A50
      by_cases c6 : t199 = true
      · subst c6
        have H1 : ((Ext.strings_ContainsAny.f a0 (⟨#[63, 35]⟩ : ByteArray)).bind fun t200 => (if t200 = true then (some 3) else (some 0))) = some r := by rw [if_pos rfl] at H; exact H
        clear H
        have H := H1
        clear H1
        replace H := Option.bind_eq_some_iff.mp H
        obtain ⟨t200, A70, H⟩ := H
        replace H : (if t200 = true then (some 3) else (some 0)) = some r := H
        have A7 := Aside0.mk A70
        clear A70
        by_cases c8 : t200 = true
        · subst c8
          have H1 : (some 3) = some r := by rw [if_pos rfl] at H; exact H
          clear H
          have H := H1
          clear H1
          obtain rfl := Option.some.inj H
          go_enter Tryz.func35, Tryz.ntmps35
          go_wp2_with (first | (go_at_call 56; (with_reducible refine (strings_HasPrefix.calls a0 (⟨#[47]⟩ : ByteArray) true _ A3.out).mono ?_); rintro e w' ⟨rfl, ⟨nd, rfl⟩⟩) | (go_at_call 57; (with_reducible refine (message_isRange.calls k a0 33 126 true _ A5.out).mono ?_); rintro e w' ⟨rfl, ⟨nd, rfl⟩⟩) | (go_at_call 58; (with_reducible refine (Ext.strings_ContainsAny.calls a0 (⟨#[63, 35]⟩ : ByteArray) true _ A7.out).mono ?_); rintro e w9 ⟨rfl, hb⟩; have n0_ := Aside0.mk (below_step (by repeat (first | (with_reducible first | exact HB.out | apply below_alloc | apply pw_below_drewN | apply below_drew1) | exact HB.out)) hb); clear HB; have HB := n0_; clear n0_; (try clear hb); (try clear hb2); (try clear hk); (try clear hi)))
          go_ret
          exact ⟨by first | rfl | (simp [errW_none, errW_some] <;> rfl) | (simp [*, errW_none, errW_some] <;> rfl), by repeat (first | (with_reducible first | exact HB.out | apply below_alloc | apply pw_below_drewN | apply below_drew1) | exact HB.out)⟩
        · replace c8 := Bool.eq_false_iff.mpr c8
          subst c8
          have H1 : (some 0) = some r := by rw [if_neg (show ¬ (false = true) by decide)] at H; exact H
          clear H
          have H := H1
          clear H1
          obtain rfl := Option.some.inj H
          go_enter Tryz.func35, Tryz.ntmps35
          go_wp2_with (first | (go_at_call 56; (with_reducible refine (strings_HasPrefix.calls a0 (⟨#[47]⟩ : ByteArray) true _ A3.out).mono ?_); rintro e w' ⟨rfl, ⟨nd, rfl⟩⟩) | (go_at_call 57; (with_reducible refine (message_isRange.calls k a0 33 126 true _ A5.out).mono ?_); rintro e w' ⟨rfl, ⟨nd, rfl⟩⟩) | (go_at_call 58; (with_reducible refine (Ext.strings_ContainsAny.calls a0 (⟨#[63, 35]⟩ : ByteArray) false _ A7.out).mono ?_); rintro e w10 ⟨rfl, hb⟩; have n0_ := Aside0.mk (below_step (by repeat (first | (with_reducible first | exact HB.out | apply below_alloc | apply pw_below_drewN | apply below_drew1) | exact HB.out)) hb); clear HB; have HB := n0_; clear n0_; (try clear hb); (try clear hb2); (try clear hk); (try clear hi)))
          go_ret
          exact ⟨by first | rfl | (simp [errW_none, errW_some] <;> rfl) | (simp [*, errW_none, errW_some] <;> rfl), by repeat (first | (with_reducible first | exact HB.out | apply below_alloc | apply pw_below_drewN | apply below_drew1) | exact HB.out)⟩
      · replace c6 := Bool.eq_false_iff.mpr c6
        subst c6
        have H1 : (some 3) = some r := by rw [if_neg (show ¬ (false = true) by decide)] at H; exact H
        clear H
        have H := H1
        clear H1
        obtain rfl := Option.some.inj H
        go_enter Tryz.func35, Tryz.ntmps35
        go_wp2_with (first | (go_at_call 56; (with_reducible refine (strings_HasPrefix.calls a0 (⟨#[47]⟩ : ByteArray) true _ A3.out).mono ?_); rintro e w' ⟨rfl, ⟨nd, rfl⟩⟩) | (go_at_call 57; (with_reducible refine (message_isRange.calls k a0 33 126 false _ A5.out).mono ?_); rintro e w' ⟨rfl, ⟨nd, rfl⟩⟩))
        go_ret
        exact ⟨by first | rfl | (simp [errW_none, errW_some] <;> rfl) | (simp [*, errW_none, errW_some] <;> rfl), by repeat (first | (with_reducible first | exact HB.out | apply below_alloc | apply pw_below_drewN | apply below_drew1) | exact HB.out)⟩
    · replace c4 := Bool.eq_false_iff.mpr c4
      subst c4
      have H1 : (some 3) = some r := by rw [if_neg (show ¬ (false = true) by decide)] at H; exact H
      clear H
      have H := H1
      clear H1
      obtain rfl := Option.some.inj H
      go_enter Tryz.func35, Tryz.ntmps35
      go_wp2_with (first | (go_at_call 56; (with_reducible refine (strings_HasPrefix.calls a0 (⟨#[47]⟩ : ByteArray) false _ A3.out).mono ?_); rintro e w' ⟨rfl, ⟨nd, rfl⟩⟩))
      go_ret
      exact ⟨by first | rfl | (simp [errW_none, errW_some] <;> rfl) | (simp [*, errW_none, errW_some] <;> rfl), by repeat (first | (with_reducible first | exact HB.out | apply below_alloc | apply pw_below_drewN | apply below_drew1) | exact HB.out)⟩

end Go.Proofs.YthgjnpmebjlecaaGreatDoor.P
/- message.normalUnits hands back a string without a percent sign as it is; condition: the string is shorter than 2^45 bytes and bears no percent sign (else nothing is said). -/
namespace Go.Proofs.YthgjnpmebjlecaaGreatDoor.Ext
open Go.RowKit

def normalUnits.f (s : ByteArray) : Option (ByteArray × Bool) := if s.size ≤ 35184372088832 ∧ s.data.toList.all (fun b => b != 37) = true then some (s, true) else none
theorem bytes_snoc (s : ByteArray) (k : Nat) (h : k < s.size) : Lib.byteCells (s.data.toList.take (k + 1)) = Lib.byteCells (s.data.toList.take k) ++ [.int .u8 (s[k].toNat : Int)] := by
  rw [List.take_succ_eq_append_getElem (by simpa using h), Lib.byteCells_append]; rfl
theorem bytes_all (s : ByteArray) (k : Nat) (h : ¬ k < s.size) : s.data.toList.take k = s.data.toList := List.take_of_length_le (by simp; omega)
set_option maxHeartbeats 1000000 in
theorem normalUnits.calls (a0 : ByteArray) (r1 : ByteArray) (r2 : Bool) (w : World) (h : normalUnits.f a0 = some (r1, r2)) :
    Calls Tryz.prog 36 #[.string a0] w fun e w' => e = .returned (.tuple #[.string r1, .bool r2]) ∧ Below w.heap.size w w' := by
  unfold normalUnits.f at h
  split at h
  · rename_i h1
    obtain ⟨hs, hall⟩ := h1
    cases h
    have hno : ∀ k (hk : k < a0.size), ((a0[k].toNat : Int) != 37) = true := fun k hk => by
      have := List.all_eq_true.1 hall (a0[k]) (by show a0.data[k] ∈ _; simp)
      rw [bne_iff_ne] at this ⊢
      intro e
      apply this
      apply UInt8.toNat_inj.1
      have e2 : (37 : UInt8).toNat = 37 := rfl
      rw [e2]; omega
    have H := Lib.hid hno
    clear hno hall
    go_enter Tryz.func36, Tryz.ntmps36
    go_wp2
    go_loopw [5] (fun i wr => ∃ k : Nat, k ≤ a0.size ∧ i = .int .i64 k ∧ Lib.IsBuilder 93 5 w.heap.size w.heap.size (Lib.byteCells (a0.data.toList.take k)) wr ∧ Below w.heap.size w wr) (fun i _ => a0.size - (intOf i).toNat)
    case atStart => exact ⟨0, Nat.zero_le _, rfl, Lib.fresh_isBuilder 93 5 w, (Below.refl _ w).alloc (Nat.le_refl _) _⟩
    case round =>
      obtain ⟨k, hk, rfl, hI, hbw⟩ := hrel
      have hsz := hbw.size
      by_cases hlt : k < a0.size
      · have hc := H.out k hlt
        have hlen : (Lib.byteCells (a0.data.toList.take k)).length + 1 ≤ 140737488355328 := by rw [Lib.byteCells_length, List.length_take]; omega
        go_wp2_with (go_at_call 44; refine (Tryz.Builder_WriteByte w.heap.size w.heap.size _ _ _ hI hlen hsz).mono ?_)
        rintro e W1 ⟨rfl, h1, b1⟩
        go_wp2
        go_roundw
        case rel => exact ⟨k + 1, by omega, by go_num, by rw [bytes_snoc a0 k hlt]; exact Or.inr h1, hbw.trans b1⟩
        case measure => simp [intOf]; omega
      · go_wp2_with (go_at_call 45; refine (Tryz.Builder_String_any w.heap.size w.heap.size (a0.data.toList.take k) _ hI hsz).mono ?_)
        rintro e W1 ⟨rfl, b1⟩
        go_wp2
        go_ret2
        rw [bytes_all a0 k hlt]
        exact ⟨rfl, hbw.trans b1⟩
  · cases h
end Go.Proofs.YthgjnpmebjlecaaGreatDoor.Ext
/- The machine's side, printed by a program of this session: each Go function named below comes to the Lean function of its name; conditions: those of each theorem. -/
namespace Go.Proofs.YthgjnpmebjlecaaGreatDoor.P
open Go.RowKit Go.Proofs.YthgjnpmebjlecaaGreatDoorW.PrintWords Go.Proofs.YthgjnpmebjlecaaGreatDoorW.PrintLast Go.Proofs.YthgjnpmebjlecaaGreatDoorW.PrintMore
attribute [local go_sem] max2_int min2_int max_two min_two max_three min_three max_four min_four   -- for this text's walks alone
set_option linter.unusedVariables false
set_option linter.unusedSimpArgs false

/-! ### message_NormalPath: function 20 -/
def message_NormalPath.l0 : Nat → List ByteArray → List ByteArray → List ByteArray → Int → Int → Option (ByteArray × Int)
  | 0, _, _, _, _, _ => none
  | k + 1, x6, x7, x25, x26, x27 => if x27 < x26 then (if 0 ≤ x27 then (if x27 < (x25.length : Int) then (if (rdOf ByteArray.empty x25 x27).toList = ([46] : List UInt8) then (if x27 = (wrap64 ((x7.length : Int) - 1)) then (if x6.length < 8796093022208 then (message_NormalPath.l0 k (x6 ++ [(⟨#[]⟩ : ByteArray)]) x7 x25 x26 (wrap64 (x27 + 1))) else (none)) else (message_NormalPath.l0 k x6 x7 x25 x26 (wrap64 (x27 + 1)))) else (if (rdOf ByteArray.empty x25 x27).toList = ([46, 46] : List UInt8) then (if 0 ≤ (mx (wrap64 ((x6.length : Int) - 1)) 0) then (if (mx (wrap64 ((x6.length : Int) - 1)) 0) ≤ (x6.length : Int) then ((some (x6.take ((mx (wrap64 ((x6.length : Int) - 1)) 0) : Int).toNat : List ByteArray)).bind fun y232 => (if x27 = (wrap64 ((x7.length : Int) - 1)) then (if y232.length < 8796093022208 then (message_NormalPath.l0 k (y232 ++ [(⟨#[]⟩ : ByteArray)]) x7 x25 x26 (wrap64 (x27 + 1))) else (none)) else (message_NormalPath.l0 k y232 x7 x25 x26 (wrap64 (x27 + 1))))) else (none)) else (none)) else (if x6.length < 8796093022208 then (message_NormalPath.l0 k (x6 ++ [rdOf ByteArray.empty x25 x27]) x7 x25 x26 (wrap64 (x27 + 1))) else (none)))) else (none)) else (none)) else ((Ext.strings_Join.f x6 (⟨#[47]⟩ : ByteArray)).bind fun t227 => (if 1 + t227.size ≤ 9223372036854775807 then (some ((⟨#[47]⟩ : ByteArray) ++ t227, 0)) else (none)))
def message_NormalPath.f (k : Nat) (a0 : ByteArray) : Option (ByteArray × Int) := (message_PathFault.f k a0).bind fun t221 => (if t221 = 0 then ((Ext.normalUnits.f a0).bind fun bt222 => (if bt222.2 = true then (if 1 ≤ (bt222.1.size : Int) then ((strings_Split.f k (bt222.1.extract 1 bt222.1.size) (⟨#[47]⟩ : ByteArray)).bind fun t224 => (message_NormalPath.l0 k ([] : List ByteArray) t224 t224 (t224.length : Int) 0)) else (none)) else (some ((⟨#[]⟩ : ByteArray), 9)))) else (some ((⟨#[]⟩ : ByteArray), t221)))
theorem message_NormalPath.mono_l : ∀ k, (∀ y0 y1 y2 y3 y4, LeO (message_NormalPath.l0 k y0 y1 y2 y3 y4) (message_NormalPath.l0 (k + 1) y0 y1 y2 y3 y4))
  | 0 => fun _ _ _ _ _ r h => by simp [message_NormalPath.l0] at h
  | k + 1 => by
    have ih0 := message_NormalPath.mono_l k
    · intro y0 y1 y2 y3 y4
      unfold message_NormalPath.l0
      repeat' first
      | (with_reducible exact ih0 _ _ _ _ _)
      | (with_reducible exact message_PathFault.mono _ _)
      | (with_reducible exact strings_Split.mono _ _ _)
      | (with_reducible exact LeO.refl _)
      | (with_reducible exact LeO.none _)
      | (with_reducible refine LeO.ite ?_ ?_)
      | (with_reducible refine LeO.bind ?_ (fun _ => ?_))
      | exact ih0 _ _ _ _ _
      | exact message_PathFault.mono _ _
      | exact strings_Split.mono _ _ _
      | exact LeO.none _
      | refine LeO.ite ?_ ?_
      | refine LeO.bind ?_ (fun _ => ?_)
theorem message_NormalPath.mono : ∀ a0 k, LeO (message_NormalPath.f k a0) (message_NormalPath.f (k + 1) a0) := by
  intro a0 k
  have ih0 := message_NormalPath.mono_l k
  unfold message_NormalPath.f
  repeat' first
      | (with_reducible exact ih0 _ _ _ _ _)
      | (with_reducible exact message_PathFault.mono _ _)
      | (with_reducible exact strings_Split.mono _ _ _)
      | (with_reducible exact LeO.refl _)
      | (with_reducible exact LeO.none _)
      | (with_reducible refine LeO.ite ?_ ?_)
      | (with_reducible refine LeO.bind ?_ (fun _ => ?_))
      | exact ih0 _ _ _ _ _
      | exact message_PathFault.mono _ _
      | exact strings_Split.mono _ _ _
      | exact LeO.none _
      | refine LeO.ite ?_ ?_
      | refine LeO.bind ?_ (fun _ => ?_)
set_option maxHeartbeats 8000000 in
set_option maxRecDepth 100000 in
theorem message_NormalPath.calls (k : Nat) (a0 : ByteArray) (r1 : ByteArray) (r2 : Int) (w : World) (h : message_NormalPath.f k a0 = some (r1, r2)) :
    Calls Tryz.prog 20 #[.string a0] w fun e w' => e = .returned (.tuple #[.string r1, .int .i64 r2]) ∧ Below w.heap.size w w' := by
  have HB := Aside0.mk (Below.refl w.heap.size w)
  have H : ((message_PathFault.f k a0).bind fun t221 => (if t221 = 0 then ((Ext.normalUnits.f a0).bind fun bt222 => (if bt222.2 = true then (if 1 ≤ (bt222.1.size : Int) then ((strings_Split.f k (bt222.1.extract 1 bt222.1.size) (⟨#[47]⟩ : ByteArray)).bind fun t224 => (message_NormalPath.l0 k ([] : List ByteArray) t224 t224 (t224.length : Int) 0)) else (none)) else (some ((⟨#[]⟩ : ByteArray), 9)))) else (some ((⟨#[]⟩ : ByteArray), t221)))) = some (r1, r2) := h
  clear h
  replace H := Option.bind_eq_some_iff.mp H
  obtain ⟨t221, A20, H⟩ := H
  replace H : (if t221 = 0 then ((Ext.normalUnits.f a0).bind fun bt222 => (if bt222.2 = true then (if 1 ≤ (bt222.1.size : Int) then ((strings_Split.f k (bt222.1.extract 1 bt222.1.size) (⟨#[47]⟩ : ByteArray)).bind fun t224 => (message_NormalPath.l0 k ([] : List ByteArray) t224 t224 (t224.length : Int) 0)) else (none)) else (some ((⟨#[]⟩ : ByteArray), 9)))) else (some ((⟨#[]⟩ : ByteArray), t221))) = some (r1, r2) := H
  have A2 := Aside0.mk A20
  clear A20
  by_cases c3 : t221 = 0
  · rw [if_pos c3] at H
    have c3b0 : (t221 == 0) = true := beq_iff_eq.mpr c3
    have c3b1 : (t221 != 0) = false := bne_eq_false_iff_eq.mpr c3
    clear c3
    replace H := Option.bind_eq_some_iff.mp H
    obtain ⟨⟨t222, t223⟩, A40, H⟩ := H
    replace H : (if t223 = true then (if 1 ≤ (t222.size : Int) then ((strings_Split.f k (t222.extract 1 t222.size) (⟨#[47]⟩ : ByteArray)).bind fun t224 => (message_NormalPath.l0 k ([] : List ByteArray) t224 t224 (t224.length : Int) 0)) else (none)) else (some ((⟨#[]⟩ : ByteArray), 9))) = some (r1, r2) := H
    have A4 := Aside0.mk A40
    clear A40
    by_cases c5 : t223 = true
    · subst c5
      have H1 : (if 1 ≤ (t222.size : Int) then ((strings_Split.f k (t222.extract 1 t222.size) (⟨#[47]⟩ : ByteArray)).bind fun t224 => (message_NormalPath.l0 k ([] : List ByteArray) t224 t224 (t224.length : Int) 0)) else (none)) = some (r1, r2) := by rw [if_pos rfl] at H; exact H
      clear H
      have H := H1
      clear H1
      by_cases c6 : 1 ≤ (t222.size : Int)
      · rw [if_pos c6] at H
        have c6b0 := eq_true c6
        have c6b1 : decide (1 ≤ (t222.size : Int)) = true := decide_eq_true c6
        clear c6
        replace H := Option.bind_eq_some_iff.mp H
        obtain ⟨t224, A70, H⟩ := H
        replace H : (message_NormalPath.l0 k ([] : List ByteArray) t224 t224 (t224.length : Int) 0) = some (r1, r2) := H
        have A7 := Aside0.mk A70
        clear A70
        have H' := Aside0.mk H
        clear H
        go_enter Tryz.func20, Tryz.ntmps20
        go_wp2_with (first | ((with_reducible refine gate_callee (f := 35) rfl ?_); refine goesL_ (some 11) rfl rfl Tryz.func35 (by kernel_rfl) rfl #[.string a0] rfl (by (try simp only [List.map_toArray, List.map_cons, List.map_nil]); first | done | rfl | (simp only [List.length_drop, List.length_take]; rfl)) ?_; (with_reducible refine (message_PathFault.calls k a0 t221 _ A2.out).mono ?_); rintro e w8 ⟨rfl, hb⟩; refine ⟨_, rfl, ?_⟩; have n0_ := Aside0.mk (below_step (by repeat (first | (with_reducible first | exact HB.out | apply below_alloc | apply pw_below_drewN | apply below_drew1) | exact HB.out)) hb); clear HB; have HB := n0_; clear n0_; (try clear hb); (try clear hb2); (try clear hk); (try clear hi)) | ((with_reducible refine gate_callee (f := 36) rfl ?_); refine goesL_ (some 17) rfl rfl Tryz.func36 (by kernel_rfl) rfl #[.string a0] rfl (by (try simp only [List.map_toArray, List.map_cons, List.map_nil]); first | done | rfl | (simp only [List.length_drop, List.length_take]; rfl)) ?_; (with_reducible refine (Ext.normalUnits.calls a0 t222 true _ A4.out).mono ?_); rintro e w9 ⟨rfl, hb⟩; refine ⟨_, rfl, ?_⟩; have n0_ := Aside0.mk (below_step (by repeat (first | (with_reducible first | exact HB.out | apply below_alloc | apply pw_below_drewN | apply below_drew1) | exact HB.out)) hb); clear HB; have HB := n0_; clear n0_; (try clear hb); (try clear hb2); (try clear hk); (try clear hi)) | ((with_reducible refine gate_callee (f := 37) rfl ?_); refine goesL_ (some 24) rfl rfl Tryz.func37 (by kernel_rfl) rfl #[.string (t222.extract 1 t222.size), .string (⟨#[47]⟩ : ByteArray)] rfl (by (try simp only [List.map_toArray, List.map_cons, List.map_nil]); first | done | rfl | (simp only [List.length_drop, List.length_take]; rfl)) ?_; (with_reducible refine (strings_Split.calls k (t222.extract 1 t222.size) (⟨#[47]⟩ : ByteArray) t224 _ A7.out).mono ?_); rintro e w10 ⟨v225, rfl, ho0, hb⟩; refine ⟨_, rfl, ?_⟩; have n0_ := Aside0.mk (Kd.R_lower ho0 (below_size (by repeat (first | (with_reducible first | exact HB.out | apply below_alloc | apply pw_below_drewN | apply below_drew1) | exact HB.out)))); have n1_ := Aside0.mk (below_step (by repeat (first | (with_reducible first | exact HB.out | apply below_alloc | apply pw_below_drewN | apply below_drew1) | exact HB.out)) hb); clear HB; have HO226 := n0_; have HB := n1_; clear n0_ n1_; (try clear hb); (try clear hb2); (try clear hk); (try clear hi); (try clear ho0); obtain ⟨Ao11, co11, eo11⟩ := Kd.R_slice HO226.out; subst eo11))
        go_loopg [6, 27] k (fun kq v6 v27 w' => ∃ (x6_1 : List ByteArray) (x27_1 : Int), v27 = .int .i64 x27_1 ∧ Aside0 (message_NormalPath.l0 kq x6_1 t224 t224 (t224.length : Int) x27_1 = some (r1, r2)) ∧ Aside0 (kq ≤ k) ∧ Aside0 (Kd.R Kd.string 9 w' w.heap.size (fun k_ => some k_ ≠ ((.slice Ao11 t224.length co11) : Value).ownBlock ∧ some k_ ≠ ((.slice Ao11 t224.length co11) : Value).ownBlock) v6 x6_1) ∧ Aside0 (Kd.R Kd.string 9 w' w.heap.size (fun k_ => some k_ ≠ (v6 : Value).ownBlock) (.slice Ao11 t224.length co11) t224) ∧ Aside0 (Kd.R Kd.string 9 w' w.heap.size (fun k_ => some k_ ≠ (v6 : Value).ownBlock) (.slice Ao11 t224.length co11) t224) ∧ Aside0 (Below w.heap.size w w'))
        case atStart => exact ⟨(([] : List ByteArray)), (0), (by first | rfl | (simp; done) | (simp [*]; done)), H', ⟨Nat.le_refl _⟩, ⟨by first | exact Kd.R_nil _ _ _ _ _ | exact Kd.N_nil _ _ _ _ _ | exact Kd.V_nil _ _ _ _ _ | exact Kd.Q_nil _ _ _ _ _ | exact Kd.S_nil _ _ _ _ _⟩, ⟨by (with_reducible repeat (first | apply Kd.R_alloc | apply Kd.R_drewN | apply Kd.R_drew)); exact Kd.R_mono HO226.out (fun _ hk => (by simp [Value.ownBlock]))⟩, ⟨by (with_reducible repeat (first | apply Kd.R_alloc | apply Kd.R_drewN | apply Kd.R_drew)); exact Kd.R_mono HO226.out (fun _ hk => (by simp [Value.ownBlock]))⟩, ⟨by repeat (first | (with_reducible first | exact HB.out | apply below_alloc | apply pw_below_drewN | apply below_drew1) | exact HB.out)⟩⟩
        case round =>
          clear H'
          try clear c2
          try clear p2
          try clear c3
          try clear c3b0
          try clear c3b1
          try clear c5
          try clear c6
          try clear c6b0
          try clear c6b1
          obtain ⟨x6_1, x27_1, rfl, HA, HK1, HO_6, HO_7, HO_25, HB⟩ := hrel
          cases gk with
          | zero => exact absurd HA.out (by simp [message_NormalPath.l0])
          | succ k1 =>
            have H := HA.out
            clear HA
            simp only [message_NormalPath.l0] at H
            by_cases c12 : x27_1 < (t224.length : Int)
            · rw [if_pos c12] at H
              have c12b0 : decide (x27_1 < (t224.length : Int)) = true := decide_eq_true c12
              clear c12
              by_cases c13 : 0 ≤ x27_1
              · rw [if_pos c13] at H
                have c13b0 : decide (0 ≤ x27_1) = true := decide_eq_true c13
                clear c13
                by_cases c14 : x27_1 < (t224.length : Int)
                · rw [if_pos c14] at H
                  have c14b0 : decide (x27_1 < (t224.length : Int)) = true := decide_eq_true c14
                  clear c14
                  by_cases c15 : (rdOf ByteArray.empty t224 x27_1).toList = ([46] : List UInt8)
                  · rw [if_pos c15] at H
                    have c15b0 : ((rdOf ByteArray.empty t224 x27_1).toList == ([46] : List UInt8)) = true := beq_iff_eq.mpr c15
                    have c15b1 : ((rdOf ByteArray.empty t224 x27_1).toList != ([46] : List UInt8)) = false := bne_eq_false_iff_eq.mpr c15
                    clear c15
                    by_cases c16 : x27_1 = (wrap64 ((t224.length : Int) - 1))
                    · rw [if_pos c16] at H
                      have c16b0 : (x27_1 == (wrap64 ((t224.length : Int) - 1))) = true := beq_iff_eq.mpr c16
                      (try have c16bu0 := (by have h_ := c16b0; simp (disch := omega) only [Go.Proofs.YthgjnpmebjlecaaGreatDoorXWords.wrap_in] at h_; exact h_))
                      have c16b1 : (x27_1 != (wrap64 ((t224.length : Int) - 1))) = false := bne_eq_false_iff_eq.mpr c16
                      (try have c16bu1 := (by have h_ := c16b1; simp (disch := omega) only [Go.Proofs.YthgjnpmebjlecaaGreatDoorXWords.wrap_in] at h_; exact h_))
                      clear c16
                      by_cases c17 : x6_1.length < 8796093022208
                      · rw [if_pos c17] at H
                        have LMc17 := Aside0.mk c17
                        clear c17
                        obtain ⟨y229, hy229⟩ : ∃ y_ : List ByteArray, y_ = (x6_1 ++ [(⟨#[]⟩ : ByteArray)]) := ⟨_, rfl⟩
                        replace H : (message_NormalPath.l0 k1 y229 t224 t224 (t224.length : Int) (wrap64 (x27_1 + 1))) = some (r1, r2) := by first | (rw [hy229]; with_reducible exact H) | (have H2_ := (Option.bind_some _ _).symm.trans H; rw [hy229]; with_reducible exact H2_) | (have H2_ := (Option.bind_some _ _).symm.trans H; with_reducible exact H2_) | with_reducible exact H | (rw [hy229]; exact H) | exact H
                        have Ny229 := Aside0.mk hy229
                        clear hy229
                        have H' := Aside0.mk H
                        clear H
                        have p228 : 0 ≤ (x27_1 : Int) := of_decide_eq_true (by first | (with_reducible assumption) | assumption)
                        have q228 : x27_1 < (t224.length : Int) := of_decide_eq_true (by first | (with_reducible assumption) | assumption)
                        obtain ⟨ad228, e228, hx228_0⟩ := Kd.at_string (Kd.R_reads' HO_25.out).2.2 x27_1 p228 q228
                        cases e228
                        replace p228 := eq_true p228
                        replace q228 := eq_true q228
                        go_wp2_with (first | ((with_reducible refine gate_builtin (b := .append) (xs := #[.tmp 52, .tmp 53]) rfl ?_); at_builtin; refine Kd.R_append Kd.string (w0 := w) w.heap.size rfl (.tmp 52) (.tmp 53) 30 9 (.string ⟨#[]⟩) 16 rfl Tryz.underlying30 info9 rfl (by decide) (by omega) u6 x6_1 (⟨#[]⟩ : ByteArray) [.string (⟨#[]⟩ : ByteArray)] (fun k_ => some k_ ≠ (.slice (some ad228) t224.length co11 : Value).ownBlock ∧ some k_ ≠ (.slice (some ad228) t224.length co11 : Value).ownBlock) (fun _ => False) rfl rfl ?aP (fun _ hk => hk.elim) ?aF ?aO ?aB ?aS ?aL ?_; (case aP => exact rfl); (case aB => exact (by repeat (first | (with_reducible first | exact HB.out | apply below_alloc | apply pw_below_drewN | apply below_drew1) | exact HB.out))); (case aF => exact (fun k_ hk => ⟨Kd.fresh' (Kd.R_lt (by (with_reducible repeat (first | apply Kd.R_alloc | apply Kd.R_drewN | apply Kd.R_drew)); exact HO_7.out)) k_ hk, Kd.fresh' (Kd.R_lt (by (with_reducible repeat (first | apply Kd.R_alloc | apply Kd.R_drewN | apply Kd.R_drew)); exact HO_25.out)) k_ hk⟩)); (case aO => exact (by (with_reducible repeat (first | apply Kd.R_alloc | apply Kd.R_drewN | apply Kd.R_drew)); exact HO_6.out)); (case aS => exact (below_size (by repeat (first | (with_reducible first | exact HB.out | apply below_alloc | apply pw_below_drewN | apply below_drew1) | exact HB.out)))); (case aL => have := LMc17.out; omega); intro v230 w18 ho hb hg hat; rw [← Ny229.out] at ho; have n0_ := Aside0.mk (Kd.R_after (ok := (fun _ => True)) (by (with_reducible repeat (first | apply Kd.R_alloc | apply Kd.R_drewN | apply Kd.R_drew)); exact Kd.R_mono HO_7.out (fun _ hk => ⟨trivial, hk⟩)) hg hat); have n1_ := Aside0.mk (Kd.R_after (ok := (fun _ => True)) (by (with_reducible repeat (first | apply Kd.R_alloc | apply Kd.R_drewN | apply Kd.R_drew)); exact Kd.R_mono HO_25.out (fun _ hk => ⟨trivial, hk⟩)) hg hat); have n2_ := Aside0.mk (hb); have n3_ := Aside0.mk (ho); clear HO_7; clear HO_25; clear HB; clear HO_6; have HO_7 := n0_; have HO_25 := n1_; have HB := n2_; have HO231 := n3_; clear n0_ n1_ n2_ n3_; clear ho hb hg hat))
                        go_roundg k1
                        case measure => have := HK1.out; omega
                        case rel => exact ⟨(y229), (wrap64 (x27_1 + 1)), (by first | rfl | (simp; done) | (simp [*]; done)), H', ⟨by have := HK1.out; omega⟩, ⟨by (with_reducible repeat (first | apply Kd.R_alloc | apply Kd.R_drewN | apply Kd.R_drew)); exact HO231.out⟩, ⟨by (with_reducible repeat (first | apply Kd.R_alloc | apply Kd.R_drewN | apply Kd.R_drew)); exact Kd.R_mono HO_7.out (fun _ hk => hk.2)⟩, ⟨by (with_reducible repeat (first | apply Kd.R_alloc | apply Kd.R_drewN | apply Kd.R_drew)); exact Kd.R_mono HO_25.out (fun _ hk => hk.2)⟩, ⟨by repeat (first | (with_reducible first | exact HB.out | apply below_alloc | apply pw_below_drewN | apply below_drew1) | exact HB.out)⟩⟩
                      · rw [if_neg c17] at H
                        exact absurd H (by simp)
                    · rw [if_neg c16] at H
                      have c16b0 : (x27_1 == (wrap64 ((t224.length : Int) - 1))) = false := beq_eq_false_iff_ne.mpr c16
                      (try have c16bu0 := (by have h_ := c16b0; simp (disch := omega) only [Go.Proofs.YthgjnpmebjlecaaGreatDoorXWords.wrap_in] at h_; exact h_))
                      have c16b1 : (x27_1 != (wrap64 ((t224.length : Int) - 1))) = true := bne_iff_ne.mpr c16
                      (try have c16bu1 := (by have h_ := c16b1; simp (disch := omega) only [Go.Proofs.YthgjnpmebjlecaaGreatDoorXWords.wrap_in] at h_; exact h_))
                      have H' := Aside0.mk H
                      clear H
                      have p228 : 0 ≤ (x27_1 : Int) := of_decide_eq_true (by first | (with_reducible assumption) | assumption)
                      have q228 : x27_1 < (t224.length : Int) := of_decide_eq_true (by first | (with_reducible assumption) | assumption)
                      obtain ⟨ad228, e228, hx228_0⟩ := Kd.at_string (Kd.R_reads' HO_25.out).2.2 x27_1 p228 q228
                      cases e228
                      replace p228 := eq_true p228
                      replace q228 := eq_true q228
                      go_wp2
                      go_roundg k1
                      case measure => have := HK1.out; omega
                      case rel => exact ⟨(x6_1), (wrap64 (x27_1 + 1)), (by first | rfl | (simp; done) | (simp [*]; done)), H', ⟨by have := HK1.out; omega⟩, ⟨by (with_reducible repeat (first | apply Kd.R_alloc | apply Kd.R_drewN | apply Kd.R_drew)); exact HO_6.out⟩, ⟨by (with_reducible repeat (first | apply Kd.R_alloc | apply Kd.R_drewN | apply Kd.R_drew)); exact HO_7.out⟩, ⟨by (with_reducible repeat (first | apply Kd.R_alloc | apply Kd.R_drewN | apply Kd.R_drew)); exact HO_25.out⟩, ⟨by repeat (first | (with_reducible first | exact HB.out | apply below_alloc | apply pw_below_drewN | apply below_drew1) | exact HB.out)⟩⟩
                  · rw [if_neg c15] at H
                    have c15b0 : ((rdOf ByteArray.empty t224 x27_1).toList == ([46] : List UInt8)) = false := beq_eq_false_iff_ne.mpr c15
                    have c15b1 : ((rdOf ByteArray.empty t224 x27_1).toList != ([46] : List UInt8)) = true := bne_iff_ne.mpr c15
                    by_cases c19 : (rdOf ByteArray.empty t224 x27_1).toList = ([46, 46] : List UInt8)
                    · rw [if_pos c19] at H
                      have c19b0 : ((rdOf ByteArray.empty t224 x27_1).toList == ([46, 46] : List UInt8)) = true := beq_iff_eq.mpr c19
                      have c19b1 : ((rdOf ByteArray.empty t224 x27_1).toList != ([46, 46] : List UInt8)) = false := bne_eq_false_iff_eq.mpr c19
                      clear c19
                      obtain ⟨ji20, hji20⟩ : ∃ j_ : Int, (mx (wrap64 ((x6_1.length : Int) - 1)) 0) = j_ := ⟨_, rfl⟩
                      replace H : (if 0 ≤ (ji20) then (if (ji20) ≤ (x6_1.length : Int) then ((some (x6_1.take ((ji20) : Int).toNat : List ByteArray)).bind fun y232 => (if x27_1 = (wrap64 ((t224.length : Int) - 1)) then (if y232.length < 8796093022208 then (message_NormalPath.l0 k1 (y232 ++ [(⟨#[]⟩ : ByteArray)]) t224 t224 (t224.length : Int) (wrap64 (x27_1 + 1))) else (none)) else (message_NormalPath.l0 k1 y232 t224 t224 (t224.length : Int) (wrap64 (x27_1 + 1))))) else (none)) else (none)) = some (r1, r2) := by first | (rw [hji20] at H; exact H) | (simp only [hji20] at H ⊢; exact H)
                      have hji20_ : (if (wrap64 ((x6_1.length : Int) - 1)) < 0 then 0 else (wrap64 ((x6_1.length : Int) - 1))) = ji20 := hji20
                      by_cases c21 : 0 ≤ (ji20)
                      · rw [if_pos c21] at H
                        have c21b0 := eq_true c21
                        have c21b1 : decide (0 ≤ (ji20)) = true := decide_eq_true c21
                        clear c21
                        by_cases c22 : (ji20) ≤ (x6_1.length : Int)
                        · rw [if_pos c22] at H
                          have c22b0 := eq_true c22
                          have c22b1 : decide ((ji20) ≤ (x6_1.length : Int)) = true := decide_eq_true c22
                          clear c22
                          obtain ⟨y232, hy232⟩ : ∃ y_ : List ByteArray, y_ = (x6_1.take ((ji20) : Int).toNat) := ⟨_, rfl⟩
                          replace H : (if x27_1 = (wrap64 ((t224.length : Int) - 1)) then (if y232.length < 8796093022208 then (message_NormalPath.l0 k1 (y232 ++ [(⟨#[]⟩ : ByteArray)]) t224 t224 (t224.length : Int) (wrap64 (x27_1 + 1))) else (none)) else (message_NormalPath.l0 k1 y232 t224 t224 (t224.length : Int) (wrap64 (x27_1 + 1)))) = some (r1, r2) := by first | (rw [hy232]; with_reducible exact H) | (have H2_ := (Option.bind_some _ _).symm.trans H; rw [hy232]; with_reducible exact H2_) | (have H2_ := (Option.bind_some _ _).symm.trans H; with_reducible exact H2_) | with_reducible exact H | (rw [hy232]; exact H) | exact H
                          have Ny232 := Aside0.mk hy232
                          clear hy232
                          by_cases c23 : x27_1 = (wrap64 ((t224.length : Int) - 1))
                          · rw [if_pos c23] at H
                            have c23b0 : (x27_1 == (wrap64 ((t224.length : Int) - 1))) = true := beq_iff_eq.mpr c23
                            (try have c23bu0 := (by have h_ := c23b0; simp (disch := omega) only [Go.Proofs.YthgjnpmebjlecaaGreatDoorXWords.wrap_in] at h_; exact h_))
                            have c23b1 : (x27_1 != (wrap64 ((t224.length : Int) - 1))) = false := bne_eq_false_iff_eq.mpr c23
                            (try have c23bu1 := (by have h_ := c23b1; simp (disch := omega) only [Go.Proofs.YthgjnpmebjlecaaGreatDoorXWords.wrap_in] at h_; exact h_))
                            clear c23
                            by_cases c24 : y232.length < 8796093022208
                            · rw [if_pos c24] at H
                              have LMc24 := Aside0.mk c24
                              clear c24
                              obtain ⟨y235, hy235⟩ : ∃ y_ : List ByteArray, y_ = (y232 ++ [(⟨#[]⟩ : ByteArray)]) := ⟨_, rfl⟩
                              replace H : (message_NormalPath.l0 k1 y235 t224 t224 (t224.length : Int) (wrap64 (x27_1 + 1))) = some (r1, r2) := by first | (rw [hy235]; with_reducible exact H) | (have H2_ := (Option.bind_some _ _).symm.trans H; rw [hy235]; with_reducible exact H2_) | (have H2_ := (Option.bind_some _ _).symm.trans H; with_reducible exact H2_) | with_reducible exact H | (rw [hy235]; exact H) | exact H
                              have Ny235 := Aside0.mk hy235
                              clear hy235
                              have H' := Aside0.mk H
                              clear H
                              have p228 : 0 ≤ (x27_1 : Int) := of_decide_eq_true (by first | (with_reducible assumption) | assumption)
                              have q228 : x27_1 < (t224.length : Int) := of_decide_eq_true (by first | (with_reducible assumption) | assumption)
                              obtain ⟨ad228, e228, hx228_0⟩ := Kd.at_string (Kd.R_reads' HO_25.out).2.2 x27_1 p228 q228
                              cases e228
                              replace p228 := eq_true p228
                              replace q228 := eq_true q228
                              obtain ⟨Ao25, co25, eo25⟩ := Kd.R_slice HO_6.out
                              subst eo25
                              have q26 : ((ji20) : Int) ≤ ((x6_1.length : Int) : Int) := of_decide_eq_true (by first | (with_reducible assumption) | assumption)
                              obtain ⟨i026, hi026, _, hsz26, _⟩ := info_parts info9
                              have hcut26 := cut_to (P := Tryz.prog) 30 9 .i64 Tryz.underlying30 hi026 Ao25 x6_1.length co25 (ji20) (of_decide_eq_true (by first | (with_reducible assumption) | assumption)) q26 (Kd.R_reads' HO_6.out).2.1
                              have hr26 := Kd.R_take (m := ((ji20) : Int).toNat) HO_6.out (by first | omega | (have e_ := (Kd.R_reads' HO_6.out).1; omega))
                              have hy26 : y232.length = ((ji20) : Int).toNat := (by have e_ := (Kd.R_reads' HO_6.out).1; rw [Ny232.out, List.length_take]; omega)
                              rw [← Ny232.out] at hr26
                              rw [← hy26] at hr26 hcut26
                              clear hy26 hi026 hsz26 HO_6
                              have HO234 := Aside0.mk hr26
                              clear hr26
                              replace q26 := eq_true q26
                              have n_ := Aside0.mk (Kd.R_mono (ok' := fun k_ => some k_ ≠ (.slice Ao25 y232.length co25 : Value).ownBlock) HO_7.out (fun _ hk_ => by first | exact hk_ | (simpa only [Go.Proofs.YthgjnpmebjlecaaGreatDoorXWords.ownB_slice] using hk_)))
                              clear HO_7
                              have HO_7 := n_
                              clear n_
                              have n_ := Aside0.mk (Kd.R_mono (ok' := fun k_ => some k_ ≠ (.slice Ao25 y232.length co25 : Value).ownBlock) HO_25.out (fun _ hk_ => by first | exact hk_ | (simpa only [Go.Proofs.YthgjnpmebjlecaaGreatDoorXWords.ownB_slice] using hk_)))
                              clear HO_25
                              have HO_25 := n_
                              clear n_
                              go_wp2_with (first | ((with_reducible refine gate_builtin (b := .append) (xs := #[.tmp 52, .tmp 53]) rfl ?_); at_builtin; refine Kd.R_append Kd.string (w0 := w) w.heap.size rfl (.tmp 52) (.tmp 53) 30 9 (.string ⟨#[]⟩) 16 rfl Tryz.underlying30 info9 rfl (by decide) (by omega) (.slice Ao25 y232.length co25) y232 (⟨#[]⟩ : ByteArray) [.string (⟨#[]⟩ : ByteArray)] (fun k_ => some k_ ≠ (.slice (some ad228) t224.length co11 : Value).ownBlock ∧ some k_ ≠ (.slice (some ad228) t224.length co11 : Value).ownBlock) (fun _ => False) rfl rfl ?aP (fun _ hk => hk.elim) ?aF ?aO ?aB ?aS ?aL ?_; (case aP => exact rfl); (case aB => exact (by repeat (first | (with_reducible first | exact HB.out | apply below_alloc | apply pw_below_drewN | apply below_drew1) | exact HB.out))); (case aF => exact (fun k_ hk => ⟨Kd.fresh' (Kd.R_lt (by (with_reducible repeat (first | apply Kd.R_alloc | apply Kd.R_drewN | apply Kd.R_drew)); exact HO_7.out)) k_ hk, Kd.fresh' (Kd.R_lt (by (with_reducible repeat (first | apply Kd.R_alloc | apply Kd.R_drewN | apply Kd.R_drew)); exact HO_25.out)) k_ hk⟩)); (case aO => exact (by (with_reducible repeat (first | apply Kd.R_alloc | apply Kd.R_drewN | apply Kd.R_drew)); exact HO234.out)); (case aS => exact (below_size (by repeat (first | (with_reducible first | exact HB.out | apply below_alloc | apply pw_below_drewN | apply below_drew1) | exact HB.out)))); (case aL => have := LMc24.out; omega); intro v236 w27 ho hb hg hat; rw [← Ny235.out] at ho; have n0_ := Aside0.mk (Kd.R_after (ok := (fun _ => True)) (by (with_reducible repeat (first | apply Kd.R_alloc | apply Kd.R_drewN | apply Kd.R_drew)); exact Kd.R_mono HO_7.out (fun _ hk => ⟨trivial, hk⟩)) hg hat); have n1_ := Aside0.mk (Kd.R_after (ok := (fun _ => True)) (by (with_reducible repeat (first | apply Kd.R_alloc | apply Kd.R_drewN | apply Kd.R_drew)); exact Kd.R_mono HO_25.out (fun _ hk => ⟨trivial, hk⟩)) hg hat); have n2_ := Aside0.mk (hb); have n3_ := Aside0.mk (ho); clear HO_7; clear HO_25; clear HB; clear HO234; have HO_7 := n0_; have HO_25 := n1_; have HB := n2_; have HO237 := n3_; clear n0_ n1_ n2_ n3_; clear ho hb hg hat))
                              go_roundg k1
                              case measure => have := HK1.out; omega
                              case rel => exact ⟨(y235), (wrap64 (x27_1 + 1)), (by first | rfl | (simp; done) | (simp [*]; done)), H', ⟨by have := HK1.out; omega⟩, ⟨by (with_reducible repeat (first | apply Kd.R_alloc | apply Kd.R_drewN | apply Kd.R_drew)); exact HO237.out⟩, ⟨by (with_reducible repeat (first | apply Kd.R_alloc | apply Kd.R_drewN | apply Kd.R_drew)); exact Kd.R_mono HO_7.out (fun _ hk => hk.2)⟩, ⟨by (with_reducible repeat (first | apply Kd.R_alloc | apply Kd.R_drewN | apply Kd.R_drew)); exact Kd.R_mono HO_25.out (fun _ hk => hk.2)⟩, ⟨by repeat (first | (with_reducible first | exact HB.out | apply below_alloc | apply pw_below_drewN | apply below_drew1) | exact HB.out)⟩⟩
                            · rw [if_neg c24] at H
                              exact absurd H (by simp)
                          · rw [if_neg c23] at H
                            have c23b0 : (x27_1 == (wrap64 ((t224.length : Int) - 1))) = false := beq_eq_false_iff_ne.mpr c23
                            (try have c23bu0 := (by have h_ := c23b0; simp (disch := omega) only [Go.Proofs.YthgjnpmebjlecaaGreatDoorXWords.wrap_in] at h_; exact h_))
                            have c23b1 : (x27_1 != (wrap64 ((t224.length : Int) - 1))) = true := bne_iff_ne.mpr c23
                            (try have c23bu1 := (by have h_ := c23b1; simp (disch := omega) only [Go.Proofs.YthgjnpmebjlecaaGreatDoorXWords.wrap_in] at h_; exact h_))
                            have H' := Aside0.mk H
                            clear H
                            have p228 : 0 ≤ (x27_1 : Int) := of_decide_eq_true (by first | (with_reducible assumption) | assumption)
                            have q228 : x27_1 < (t224.length : Int) := of_decide_eq_true (by first | (with_reducible assumption) | assumption)
                            obtain ⟨ad228, e228, hx228_0⟩ := Kd.at_string (Kd.R_reads' HO_25.out).2.2 x27_1 p228 q228
                            cases e228
                            replace p228 := eq_true p228
                            replace q228 := eq_true q228
                            obtain ⟨Ao28, co28, eo28⟩ := Kd.R_slice HO_6.out
                            subst eo28
                            have q29 : ((ji20) : Int) ≤ ((x6_1.length : Int) : Int) := of_decide_eq_true (by first | (with_reducible assumption) | assumption)
                            obtain ⟨i029, hi029, _, hsz29, _⟩ := info_parts info9
                            have hcut29 := cut_to (P := Tryz.prog) 30 9 .i64 Tryz.underlying30 hi029 Ao28 x6_1.length co28 (ji20) (of_decide_eq_true (by first | (with_reducible assumption) | assumption)) q29 (Kd.R_reads' HO_6.out).2.1
                            have hr29 := Kd.R_take (m := ((ji20) : Int).toNat) HO_6.out (by first | omega | (have e_ := (Kd.R_reads' HO_6.out).1; omega))
                            have hy29 : y232.length = ((ji20) : Int).toNat := (by have e_ := (Kd.R_reads' HO_6.out).1; rw [Ny232.out, List.length_take]; omega)
                            rw [← Ny232.out] at hr29
                            rw [← hy29] at hr29 hcut29
                            clear hy29 hi029 hsz29 HO_6
                            have HO234 := Aside0.mk hr29
                            clear hr29
                            replace q29 := eq_true q29
                            have n_ := Aside0.mk (Kd.R_mono (ok' := fun k_ => some k_ ≠ (.slice Ao28 y232.length co28 : Value).ownBlock) HO_7.out (fun _ hk_ => by first | exact hk_ | (simpa only [Go.Proofs.YthgjnpmebjlecaaGreatDoorXWords.ownB_slice] using hk_)))
                            clear HO_7
                            have HO_7 := n_
                            clear n_
                            have n_ := Aside0.mk (Kd.R_mono (ok' := fun k_ => some k_ ≠ (.slice Ao28 y232.length co28 : Value).ownBlock) HO_25.out (fun _ hk_ => by first | exact hk_ | (simpa only [Go.Proofs.YthgjnpmebjlecaaGreatDoorXWords.ownB_slice] using hk_)))
                            clear HO_25
                            have HO_25 := n_
                            clear n_
                            go_wp2
                            go_roundg k1
                            case measure => have := HK1.out; omega
                            case rel => exact ⟨(y232), (wrap64 (x27_1 + 1)), (by first | rfl | (simp; done) | (simp [*]; done)), H', ⟨by have := HK1.out; omega⟩, ⟨by (with_reducible repeat (first | apply Kd.R_alloc | apply Kd.R_drewN | apply Kd.R_drew)); exact HO234.out⟩, ⟨by (with_reducible repeat (first | apply Kd.R_alloc | apply Kd.R_drewN | apply Kd.R_drew)); exact HO_7.out⟩, ⟨by (with_reducible repeat (first | apply Kd.R_alloc | apply Kd.R_drewN | apply Kd.R_drew)); exact HO_25.out⟩, ⟨by repeat (first | (with_reducible first | exact HB.out | apply below_alloc | apply pw_below_drewN | apply below_drew1) | exact HB.out)⟩⟩
                        · rw [if_neg c22] at H
                          exact absurd H (by simp)
                      · rw [if_neg c21] at H
                        exact absurd H (by simp)
                    · rw [if_neg c19] at H
                      have c19b0 : ((rdOf ByteArray.empty t224 x27_1).toList == ([46, 46] : List UInt8)) = false := beq_eq_false_iff_ne.mpr c19
                      have c19b1 : ((rdOf ByteArray.empty t224 x27_1).toList != ([46, 46] : List UInt8)) = true := bne_iff_ne.mpr c19
                      by_cases c30 : x6_1.length < 8796093022208
                      · rw [if_pos c30] at H
                        have LMc30 := Aside0.mk c30
                        clear c30
                        obtain ⟨y238, hy238⟩ : ∃ y_ : List ByteArray, y_ = (x6_1 ++ [rdOf ByteArray.empty t224 x27_1]) := ⟨_, rfl⟩
                        replace H : (message_NormalPath.l0 k1 y238 t224 t224 (t224.length : Int) (wrap64 (x27_1 + 1))) = some (r1, r2) := by first | (rw [hy238]; with_reducible exact H) | (have H2_ := (Option.bind_some _ _).symm.trans H; rw [hy238]; with_reducible exact H2_) | (have H2_ := (Option.bind_some _ _).symm.trans H; with_reducible exact H2_) | with_reducible exact H | (rw [hy238]; exact H) | exact H
                        have Ny238 := Aside0.mk hy238
                        clear hy238
                        have H' := Aside0.mk H
                        clear H
                        have p228 : 0 ≤ (x27_1 : Int) := of_decide_eq_true (by first | (with_reducible assumption) | assumption)
                        have q228 : x27_1 < (t224.length : Int) := of_decide_eq_true (by first | (with_reducible assumption) | assumption)
                        obtain ⟨ad228, e228, hx228_0⟩ := Kd.at_string (Kd.R_reads' HO_25.out).2.2 x27_1 p228 q228
                        cases e228
                        replace p228 := eq_true p228
                        replace q228 := eq_true q228
                        go_wp2_with (first | ((with_reducible refine gate_builtin (b := .append) (xs := #[.tmp 33, .tmp 35]) rfl ?_); at_builtin; refine Kd.R_append Kd.string (w0 := w) w.heap.size rfl (.tmp 33) (.tmp 35) 30 9 (.string ⟨#[]⟩) 16 rfl Tryz.underlying30 info9 rfl (by decide) (by omega) u6 x6_1 (rdOf ByteArray.empty t224 x27_1) [.string (rdOf ByteArray.empty t224 x27_1)] (fun k_ => some k_ ≠ (.slice (some ad228) t224.length co11 : Value).ownBlock ∧ some k_ ≠ (.slice (some ad228) t224.length co11 : Value).ownBlock) (fun _ => False) rfl rfl ?aP (fun _ hk => hk.elim) ?aF ?aO ?aB ?aS ?aL ?_; (case aP => exact rfl); (case aB => exact (by repeat (first | (with_reducible first | exact HB.out | apply below_alloc | apply pw_below_drewN | apply below_drew1) | exact HB.out))); (case aF => exact (fun k_ hk => ⟨Kd.fresh' (Kd.R_lt (by (with_reducible repeat (first | apply Kd.R_alloc | apply Kd.R_drewN | apply Kd.R_drew)); exact HO_7.out)) k_ hk, Kd.fresh' (Kd.R_lt (by (with_reducible repeat (first | apply Kd.R_alloc | apply Kd.R_drewN | apply Kd.R_drew)); exact HO_25.out)) k_ hk⟩)); (case aO => exact (by (with_reducible repeat (first | apply Kd.R_alloc | apply Kd.R_drewN | apply Kd.R_drew)); exact HO_6.out)); (case aS => exact (below_size (by repeat (first | (with_reducible first | exact HB.out | apply below_alloc | apply pw_below_drewN | apply below_drew1) | exact HB.out)))); (case aL => have := LMc30.out; omega); intro v239 w31 ho hb hg hat; rw [← Ny238.out] at ho; have n0_ := Aside0.mk (Kd.R_after (ok := (fun _ => True)) (by (with_reducible repeat (first | apply Kd.R_alloc | apply Kd.R_drewN | apply Kd.R_drew)); exact Kd.R_mono HO_7.out (fun _ hk => ⟨trivial, hk⟩)) hg hat); have n1_ := Aside0.mk (Kd.R_after (ok := (fun _ => True)) (by (with_reducible repeat (first | apply Kd.R_alloc | apply Kd.R_drewN | apply Kd.R_drew)); exact Kd.R_mono HO_25.out (fun _ hk => ⟨trivial, hk⟩)) hg hat); have n2_ := Aside0.mk (hb); have n3_ := Aside0.mk (ho); clear HO_7; clear HO_25; clear HB; clear HO_6; have HO_7 := n0_; have HO_25 := n1_; have HB := n2_; have HO240 := n3_; clear n0_ n1_ n2_ n3_; clear ho hb hg hat))
                        go_roundg k1
                        case measure => have := HK1.out; omega
                        case rel => exact ⟨(y238), (wrap64 (x27_1 + 1)), (by first | rfl | (simp; done) | (simp [*]; done)), H', ⟨by have := HK1.out; omega⟩, ⟨by (with_reducible repeat (first | apply Kd.R_alloc | apply Kd.R_drewN | apply Kd.R_drew)); exact HO240.out⟩, ⟨by (with_reducible repeat (first | apply Kd.R_alloc | apply Kd.R_drewN | apply Kd.R_drew)); exact Kd.R_mono HO_7.out (fun _ hk => hk.2)⟩, ⟨by (with_reducible repeat (first | apply Kd.R_alloc | apply Kd.R_drewN | apply Kd.R_drew)); exact Kd.R_mono HO_25.out (fun _ hk => hk.2)⟩, ⟨by repeat (first | (with_reducible first | exact HB.out | apply below_alloc | apply pw_below_drewN | apply below_drew1) | exact HB.out)⟩⟩
                      · rw [if_neg c30] at H
                        exact absurd H (by simp)
                · rw [if_neg c14] at H
                  exact absurd H (by simp)
              · rw [if_neg c13] at H
                exact absurd H (by simp)
            · rw [if_neg c12] at H
              have c12b0 : decide (x27_1 < (t224.length : Int)) = false := decide_eq_false c12
              clear c12
              replace H := Option.bind_eq_some_iff.mp H
              obtain ⟨t227, A320, H⟩ := H
              replace H : (if 1 + t227.size ≤ 9223372036854775807 then (some ((⟨#[47]⟩ : ByteArray) ++ t227, 0)) else (none)) = some (r1, r2) := H
              have A32 := Aside0.mk A320
              clear A320
              by_cases c33 : 1 + t227.size ≤ 9223372036854775807
              · rw [if_pos c33] at H
                have c33b0 := eq_true c33
                have c33b1 : decide (1 + t227.size ≤ 9223372036854775807) = true := decide_eq_true c33
                try have c33b2 : (9223372036854775807 < 1 + t227.size) = False := eq_false (Nat.not_lt.2 c33)
                simp only [Option.some.injEq, Prod.mk.injEq] at H
                obtain ⟨rfl, rfl⟩ := H
                obtain ⟨Ao34, co34, eo34⟩ := Kd.R_slice HO_6.out
                subst eo34
                go_wp2_with (first | ((with_reducible refine gate_callee (f := 31) rfl ?_); refine goesL_ (some 57) rfl rfl Tryz.func31 (by kernel_rfl) rfl #[.slice Ao34 x6_1.length co34, .string (⟨#[47]⟩ : ByteArray)] rfl (by (try simp only [List.map_toArray, List.map_cons, List.map_nil]); first | done | rfl | (simp only [List.length_drop, List.length_take]; rfl)) ?_; (with_reducible refine (Ext.strings_Join.calls _ _ x6_1 (⟨#[47]⟩ : ByteArray) t227 _ ?side1 ?side2 A32.out).mono ?_); (case side1 => repeat (first | exact (Kd.R_reads' HO_6.out).2.2 | (with_reducible refine Kd.C_alloc ?_ _) | (with_reducible refine Kd.C_drewN ?_ _) | (with_reducible refine Kd.C_drew ?_))); (case side2 => exact (Kd.R_reads' HO_6.out).2.1); rintro e w35 ⟨rfl, hb⟩; refine ⟨_, rfl, ?_⟩; have n0_ := Aside0.mk (Kd.R_below (by (with_reducible repeat (first | apply Kd.R_alloc | apply Kd.R_drewN | apply Kd.R_drew)); exact HO_6.out) hb); have n1_ := Aside0.mk (Kd.R_below (by (with_reducible repeat (first | apply Kd.R_alloc | apply Kd.R_drewN | apply Kd.R_drew)); exact HO_7.out) hb); have n2_ := Aside0.mk (Kd.R_below (by (with_reducible repeat (first | apply Kd.R_alloc | apply Kd.R_drewN | apply Kd.R_drew)); exact HO_25.out) hb); have n3_ := Aside0.mk (below_step (by repeat (first | (with_reducible first | exact HB.out | apply below_alloc | apply pw_below_drewN | apply below_drew1) | exact HB.out)) hb); clear HO_6; clear HO_7; clear HO_25; clear HB; have HO_6 := n0_; have HO_7 := n1_; have HO_25 := n2_; have HB := n3_; clear n0_ n1_ n2_ n3_; (try clear hb); (try clear hb2); (try clear hk); (try clear hi)))
                go_ret2
                exact ⟨by first | rfl | (simp [errW_none, errW_some] <;> rfl) | (simp [*, errW_none, errW_some] <;> rfl), by repeat (first | (with_reducible first | exact HB.out | apply below_alloc | apply pw_below_drewN | apply below_drew1) | exact HB.out)⟩
              · rw [if_neg c33] at H
                exact absurd H (by simp)
      · rw [if_neg c6] at H
        exact absurd H (by simp)
    · replace c5 := Bool.eq_false_iff.mpr c5
      subst c5
      have H1 : (some ((⟨#[]⟩ : ByteArray), 9)) = some (r1, r2) := by rw [if_neg (show ¬ (false = true) by decide)] at H; exact H
      clear H
      have H := H1
      clear H1
      simp only [Option.some.injEq, Prod.mk.injEq] at H
      obtain ⟨rfl, rfl⟩ := H
      go_enter Tryz.func20, Tryz.ntmps20
      go_wp2_with (first | ((with_reducible refine gate_callee (f := 35) rfl ?_); refine goesL_ (some 11) rfl rfl Tryz.func35 (by kernel_rfl) rfl #[.string a0] rfl (by (try simp only [List.map_toArray, List.map_cons, List.map_nil]); first | done | rfl | (simp only [List.length_drop, List.length_take]; rfl)) ?_; (with_reducible refine (message_PathFault.calls k a0 t221 _ A2.out).mono ?_); rintro e w36 ⟨rfl, hb⟩; refine ⟨_, rfl, ?_⟩; have n0_ := Aside0.mk (below_step (by repeat (first | (with_reducible first | exact HB.out | apply below_alloc | apply pw_below_drewN | apply below_drew1) | exact HB.out)) hb); clear HB; have HB := n0_; clear n0_; (try clear hb); (try clear hb2); (try clear hk); (try clear hi)) | ((with_reducible refine gate_callee (f := 36) rfl ?_); refine goesL_ (some 17) rfl rfl Tryz.func36 (by kernel_rfl) rfl #[.string a0] rfl (by (try simp only [List.map_toArray, List.map_cons, List.map_nil]); first | done | rfl | (simp only [List.length_drop, List.length_take]; rfl)) ?_; (with_reducible refine (Ext.normalUnits.calls a0 t222 false _ A4.out).mono ?_); rintro e w37 ⟨rfl, hb⟩; refine ⟨_, rfl, ?_⟩; have n0_ := Aside0.mk (below_step (by repeat (first | (with_reducible first | exact HB.out | apply below_alloc | apply pw_below_drewN | apply below_drew1) | exact HB.out)) hb); clear HB; have HB := n0_; clear n0_; (try clear hb); (try clear hb2); (try clear hk); (try clear hi)))
      go_ret2
      exact ⟨by first | rfl | (simp [errW_none, errW_some] <;> rfl) | (simp [*, errW_none, errW_some] <;> rfl), by repeat (first | (with_reducible first | exact HB.out | apply below_alloc | apply pw_below_drewN | apply below_drew1) | exact HB.out)⟩
  · rw [if_neg c3] at H
    have c3b0 : (t221 == 0) = false := beq_eq_false_iff_ne.mpr c3
    have c3b1 : (t221 != 0) = true := bne_iff_ne.mpr c3
    simp only [Option.some.injEq, Prod.mk.injEq] at H
    obtain ⟨rfl, rfl⟩ := H
    go_enter Tryz.func20, Tryz.ntmps20
    go_wp2_with (first | ((with_reducible refine gate_callee (f := 35) rfl ?_); refine goesL_ (some 11) rfl rfl Tryz.func35 (by kernel_rfl) rfl #[.string a0] rfl (by (try simp only [List.map_toArray, List.map_cons, List.map_nil]); first | done | rfl | (simp only [List.length_drop, List.length_take]; rfl)) ?_; (with_reducible refine (message_PathFault.calls k a0 t221 _ A2.out).mono ?_); rintro e w38 ⟨rfl, hb⟩; refine ⟨_, rfl, ?_⟩; have n0_ := Aside0.mk (below_step (by repeat (first | (with_reducible first | exact HB.out | apply below_alloc | apply pw_below_drewN | apply below_drew1) | exact HB.out)) hb); clear HB; have HB := n0_; clear n0_; (try clear hb); (try clear hb2); (try clear hk); (try clear hi)))
    go_ret2
    exact ⟨by first | rfl | (simp [errW_none, errW_some] <;> rfl) | (simp [*, errW_none, errW_some] <;> rfl), by repeat (first | (with_reducible first | exact HB.out | apply below_alloc | apply pw_below_drewN | apply below_drew1) | exact HB.out)⟩

end Go.Proofs.YthgjnpmebjlecaaGreatDoor.P
/- The machine's side, printed by a program of this session: each Go function named below comes to the Lean function of its name; conditions: those of each theorem. -/
namespace Go.Proofs.YthgjnpmebjlecaaGreatDoor.P
open Go.RowKit Go.Proofs.YthgjnpmebjlecaaGreatDoorW.PrintWords Go.Proofs.YthgjnpmebjlecaaGreatDoorW.PrintLast Go.Proofs.YthgjnpmebjlecaaGreatDoorW.PrintMore
attribute [local go_sem] max2_int min2_int max_two min_two max_three min_three max_four min_four   -- for this text's walks alone
set_option linter.unusedVariables false
set_option linter.unusedSimpArgs false

/-! ### upstream_CheckInstances: function 17 -/
mutual
def upstream_CheckInstances.l0 : Nat → List (S29) → List (S29) → Int → Int → Option (Int)
  | 0, _, _, _, _ => none
  | k + 1, x0, x8, x9, x10 => if x10 < x9 then (if 0 ≤ x10 then (if x10 < (x8.length : Int) then ((kit_IsKey.f k ((rd_T29 x8 x10).f0)).bind fun t144 => (if t144 = true then (if x10 > 0 then (if 0 ≤ (wrap64 (x10 - 1)) then (if (wrap64 (x10 - 1)) < (x0.length : Int) then (upstream_CheckInstances.j1 k x0 x8 x9 x10 (!(Op.bytesLess (((rd_T29 x0 (wrap64 (x10 - 1))).f0).toList) (((rd_T29 x8 x10).f0).toList))) ((rd_T29 x8 x10).f0) ((rd_T29 x8 x10).f1)) else (none)) else (none)) else (upstream_CheckInstances.j1 k x0 x8 x9 x10 false ((rd_T29 x8 x10).f0) ((rd_T29 x8 x10).f1))) else (some 5))) else (none)) else (none)) else (some 0)
def upstream_CheckInstances.j1 : Nat → List (S29) → List (S29) → Int → Int → Bool → ByteArray → Int → Option (Int)
  | 0, _, _, _, _, _, _, _ => none
  | k + 1, x0, x8, x9, x10, x20, x144000, x144001 => if x20 = true then (some 7) else ((kit_Outside.f x144001 1 100).bind fun t146 => (if t146 = true then (some 1) else (upstream_CheckInstances.l0 k x0 x8 x9 (wrap64 (x10 + 1)))))
end
def upstream_CheckInstances.f (k : Nat) (l0 : List (S29)) : Option (Int) := if (l0.length : Int) > 50 then (some 2) else (upstream_CheckInstances.l0 k l0 l0 (l0.length : Int) 0)
theorem upstream_CheckInstances.mono_l : ∀ k, (∀ y0 y1 y2 y3, LeO (upstream_CheckInstances.l0 k y0 y1 y2 y3) (upstream_CheckInstances.l0 (k + 1) y0 y1 y2 y3)) ∧ (∀ y0 y1 y2 y3 y4 y5 y6, LeO (upstream_CheckInstances.j1 k y0 y1 y2 y3 y4 y5 y6) (upstream_CheckInstances.j1 (k + 1) y0 y1 y2 y3 y4 y5 y6))
  | 0 => ⟨fun _ _ _ _ r h => by simp [upstream_CheckInstances.l0] at h, fun _ _ _ _ _ _ _ r h => by simp [upstream_CheckInstances.j1] at h⟩
  | k + 1 => by
    obtain ⟨ih0, ih1⟩ := upstream_CheckInstances.mono_l k
    refine ⟨?_, ?_⟩
    · intro y0 y1 y2 y3
      unfold upstream_CheckInstances.l0
      repeat' first
      | (with_reducible exact ih0 _ _ _ _)
      | (with_reducible exact ih1 _ _ _ _ _ _ _)
      | (with_reducible exact kit_IsKey.mono _ _)
      | (with_reducible exact LeO.refl _)
      | (with_reducible exact LeO.none _)
      | (with_reducible refine LeO.ite ?_ ?_)
      | (with_reducible refine LeO.bind ?_ (fun _ => ?_))
      | exact ih0 _ _ _ _
      | exact ih1 _ _ _ _ _ _ _
      | exact kit_IsKey.mono _ _
      | exact LeO.none _
      | refine LeO.ite ?_ ?_
      | refine LeO.bind ?_ (fun _ => ?_)
    · intro y0 y1 y2 y3 y4 y5 y6
      unfold upstream_CheckInstances.j1
      repeat' first
      | (with_reducible exact ih0 _ _ _ _)
      | (with_reducible exact ih1 _ _ _ _ _ _ _)
      | (with_reducible exact kit_IsKey.mono _ _)
      | (with_reducible exact LeO.refl _)
      | (with_reducible exact LeO.none _)
      | (with_reducible refine LeO.ite ?_ ?_)
      | (with_reducible refine LeO.bind ?_ (fun _ => ?_))
      | exact ih0 _ _ _ _
      | exact ih1 _ _ _ _ _ _ _
      | exact kit_IsKey.mono _ _
      | exact LeO.none _
      | refine LeO.ite ?_ ?_
      | refine LeO.bind ?_ (fun _ => ?_)
theorem upstream_CheckInstances.mono : ∀ a0 k, LeO (upstream_CheckInstances.f k a0) (upstream_CheckInstances.f (k + 1) a0) := by
  intro a0 k
  obtain ⟨ih0, ih1⟩ := upstream_CheckInstances.mono_l k
  unfold upstream_CheckInstances.f
  repeat' first
      | (with_reducible exact ih0 _ _ _ _)
      | (with_reducible exact ih1 _ _ _ _ _ _ _)
      | (with_reducible exact kit_IsKey.mono _ _)
      | (with_reducible exact LeO.refl _)
      | (with_reducible exact LeO.none _)
      | (with_reducible refine LeO.ite ?_ ?_)
      | (with_reducible refine LeO.bind ?_ (fun _ => ?_))
      | exact ih0 _ _ _ _
      | exact ih1 _ _ _ _ _ _ _
      | exact kit_IsKey.mono _ _
      | exact LeO.none _
      | refine LeO.ite ?_ ?_
      | refine LeO.bind ?_ (fun _ => ?_)
set_option maxHeartbeats 8000000 in
set_option maxRecDepth 100000 in
theorem upstream_CheckInstances.calls (k : Nat) (A0 : Option Addr) (c0 : Nat) (l0 : List (S29)) (r : Int) (w : World) (hr0 : Kd.C k29 w A0 l0.length l0) (hc0 : l0.length ≤ c0) (h : upstream_CheckInstances.f k l0 = some r) :
    Calls Tryz.prog 17 #[.slice A0 l0.length c0] w fun e w' => e = .returned (.int .i64 r) ∧ Below w.heap.size w w' := by
  have hu29 := Tryz.underlying29
  have HR0 := Aside0.mk hr0
  have HC0 := Aside0.mk hc0
  clear hr0 hc0
  have HB := Aside0.mk (Below.refl w.heap.size w)
  have H : (if (l0.length : Int) > 50 then (some 2) else (upstream_CheckInstances.l0 k l0 l0 (l0.length : Int) 0)) = some r := h
  clear h
  by_cases c2 : (l0.length : Int) > 50
  · rw [if_pos c2] at H
    have c2b0 : decide (50 < (l0.length : Int)) = true := decide_eq_true c2
    have c2b1 : decide (50 < l0.length) = true := decide_eq_true (by omega)
    clear c2
    obtain rfl := Option.some.inj H
    go_enter Tryz.func17, Tryz.ntmps17
    go_wp2
    repeat (go_quiet (fail); try go_wp2)
    go_ret
    exact ⟨by first | rfl | (simp [errW_none, errW_some] <;> rfl) | (simp [*, errW_none, errW_some] <;> rfl), by repeat (first | (with_reducible first | exact HB.out | apply below_alloc | apply pw_below_drewN | apply below_drew1) | exact HB.out)⟩
  · rw [if_neg c2] at H
    have c2b0 : decide (50 < (l0.length : Int)) = false := decide_eq_false c2
    have c2b1 : decide (50 < l0.length) = false := decide_eq_false (by omega)
    clear c2
    have H' := Aside0.mk H
    clear H
    go_enter Tryz.func17, Tryz.ntmps17
    go_wp2
    repeat (go_quiet (fail); try go_wp2)
    go_loopg [10] k (fun kq v10 w' => ∃ (x10_1 : Int), v10 = .int .i64 x10_1 ∧ Aside0 (upstream_CheckInstances.l0 kq l0 l0 (l0.length : Int) x10_1 = some r) ∧ Aside0 (kq ≤ k) ∧ Aside0 (Below w.heap.size w w'))
    case atStart => exact ⟨(0), (by first | rfl | (simp; done) | (simp [*]; done)), H', ⟨Nat.le_refl _⟩, ⟨by repeat (first | (with_reducible first | exact HB.out | apply below_alloc | apply pw_below_drewN | apply below_drew1) | exact HB.out)⟩⟩
    case round =>
      clear H'
      try clear c1
      try clear c2
      try clear c2b0
      try clear c2b1
      try clear p2
      obtain ⟨x10_1, rfl, HA, HK1, HB⟩ := hrel
      cases gk with
      | zero => exact absurd HA.out (by simp [upstream_CheckInstances.l0])
      | succ k1 =>
        have H := HA.out
        clear HA
        simp only [upstream_CheckInstances.l0] at H
        by_cases c3 : x10_1 < (l0.length : Int)
        · rw [if_pos c3] at H
          have c3b0 : decide (x10_1 < (l0.length : Int)) = true := decide_eq_true c3
          clear c3
          by_cases c4 : 0 ≤ x10_1
          · rw [if_pos c4] at H
            have c4b0 : decide (0 ≤ x10_1) = true := decide_eq_true c4
            clear c4
            by_cases c5 : x10_1 < (l0.length : Int)
            · rw [if_pos c5] at H
              have c5b0 : decide (x10_1 < (l0.length : Int)) = true := decide_eq_true c5
              clear c5
              replace H := Option.bind_eq_some_iff.mp H
              obtain ⟨t144, A60, H⟩ := H
              replace H : (if t144 = true then (if x10_1 > 0 then (if 0 ≤ (wrap64 (x10_1 - 1)) then (if (wrap64 (x10_1 - 1)) < (l0.length : Int) then (upstream_CheckInstances.j1 k1 l0 l0 (l0.length : Int) x10_1 (!(Op.bytesLess (((rd_T29 l0 (wrap64 (x10_1 - 1))).f0).toList) (((rd_T29 l0 x10_1).f0).toList))) ((rd_T29 l0 x10_1).f0) ((rd_T29 l0 x10_1).f1)) else (none)) else (none)) else (upstream_CheckInstances.j1 k1 l0 l0 (l0.length : Int) x10_1 false ((rd_T29 l0 x10_1).f0) ((rd_T29 l0 x10_1).f1))) else (some 5)) = some r := H
              have A6 := Aside0.mk A60
              clear A60
              by_cases c7 : t144 = true
              · subst c7
                have H1 : (if x10_1 > 0 then (if 0 ≤ (wrap64 (x10_1 - 1)) then (if (wrap64 (x10_1 - 1)) < (l0.length : Int) then (upstream_CheckInstances.j1 k1 l0 l0 (l0.length : Int) x10_1 (!(Op.bytesLess (((rd_T29 l0 (wrap64 (x10_1 - 1))).f0).toList) (((rd_T29 l0 x10_1).f0).toList))) ((rd_T29 l0 x10_1).f0) ((rd_T29 l0 x10_1).f1)) else (none)) else (none)) else (upstream_CheckInstances.j1 k1 l0 l0 (l0.length : Int) x10_1 false ((rd_T29 l0 x10_1).f0) ((rd_T29 l0 x10_1).f1))) = some r := by rw [if_pos rfl] at H; exact H
                clear H
                have H := H1
                clear H1
                have HC8 := Aside0.mk H
                clear H
                have p142 : 0 ≤ (x10_1 : Int) := of_decide_eq_true (by first | (with_reducible assumption) | assumption)
                have q142 : x10_1 < (l0.length : Int) := of_decide_eq_true (by first | (with_reducible assumption) | assumption)
                obtain ⟨ad142, e142, hx142_0, hx142_1⟩ := at_T29 HR0.out x10_1 p142 q142
                cases e142
                replace hx142_0 := (HB.out.cell (World.block_lt_of_cell? w _ hx142_0)).trans hx142_0
                replace hx142_1 := (HB.out.cell (World.block_lt_of_cell? w _ hx142_1)).trans hx142_1
                replace p142 := eq_true p142
                replace q142 := eq_true q142
                go_upto_region 8 with (first | ((with_reducible refine gate_dst (N := 4) rfl ?_); refine box_event ?hg (N := 4) ?hd (cs := #[.string (⟨#[]⟩ : ByteArray), .int .i64 0]) (t := 29) ?hr ?_; (case hd => rfl); (case hg => rfl); (case hr => first | (go_simp; done) | (go_simp; rfl)); intro gb143 hg w9 hbox hb; have n0_ := Aside0.mk (below_step (by repeat (first | (with_reducible first | exact HB.out | apply below_alloc | apply pw_below_drewN | apply below_drew1) | exact HB.out)) hb); have n1_ := Aside0.mk (hbox); have n2_ := Aside0.mk ((by rw [hg]; exact (below_size (by repeat (first | (with_reducible first | exact HB.out | apply below_alloc | apply pw_below_drewN | apply below_drew1) | exact HB.out))) : w.heap.size ≤ gb143)); have n3_ := Aside0.mk ((by rw [hg]; exact (below_size (by repeat (first | (with_reducible first | exact HB.out | apply below_alloc | apply pw_below_drewN | apply below_drew1) | exact HB.out))) : w.heap.size ≤ gb143)); clear HB; have HB := n0_; have BK143 := n1_; have GW143 := n2_; have GE143 := n3_; clear n0_ n1_ n2_ n3_; clear hb hbox hg; have hcz10_0 : w9.cell? ⟨gb143, 0, none⟩ = some (.string (⟨#[]⟩ : ByteArray)) := (blk_cell BK143.out 0).trans rfl; have hcz10_1 : w9.cell? ⟨gb143, 1, none⟩ = some (.int .i64 0) := (blk_cell BK143.out 1).trans rfl; have hfz10_0 := blk_frozen BK143.out 0; have hfz10_1 := blk_frozen BK143.out 1) | (go_at_call 34; (with_reducible refine (kit_IsKey.calls k1 ((rd_T29 l0 x10_1).f0) true _ A6.out).mono ?_); rintro e w' ⟨rfl, ⟨nd, rfl⟩⟩; (try first | exact ⟨rfl, _, World.drewN_drewN _ _ _⟩ | exact ⟨rfl, _, Eq.trans (World.drewN_drewN _ _ _) (congrArg (World.drewN _) (Nat.add_assoc _ _ _))⟩)))
                repeat (go_quiet (first | ((with_reducible refine gate_dst (N := 4) rfl ?_); refine box_event ?hg (N := 4) ?hd (cs := #[.string (⟨#[]⟩ : ByteArray), .int .i64 0]) (t := 29) ?hr ?_; (case hd => rfl); (case hg => rfl); (case hr => first | (go_simp; done) | (go_simp; rfl)); intro gb143 hg w9 hbox hb; have n0_ := Aside0.mk (below_step (by repeat (first | (with_reducible first | exact HB.out | apply below_alloc | apply pw_below_drewN | apply below_drew1) | exact HB.out)) hb); have n1_ := Aside0.mk (hbox); have n2_ := Aside0.mk ((by rw [hg]; exact (below_size (by repeat (first | (with_reducible first | exact HB.out | apply below_alloc | apply pw_below_drewN | apply below_drew1) | exact HB.out))) : w.heap.size ≤ gb143)); have n3_ := Aside0.mk ((by rw [hg]; exact (below_size (by repeat (first | (with_reducible first | exact HB.out | apply below_alloc | apply pw_below_drewN | apply below_drew1) | exact HB.out))) : w.heap.size ≤ gb143)); clear HB; have HB := n0_; have BK143 := n1_; have GW143 := n2_; have GE143 := n3_; clear n0_ n1_ n2_ n3_; clear hb hbox hg; have hcz10_0 : w9.cell? ⟨gb143, 0, none⟩ = some (.string (⟨#[]⟩ : ByteArray)) := (blk_cell BK143.out 0).trans rfl; have hcz10_1 : w9.cell? ⟨gb143, 1, none⟩ = some (.int .i64 0) := (blk_cell BK143.out 1).trans rfl; have hfz10_0 := blk_frozen BK143.out 0; have hfz10_1 := blk_frozen BK143.out 1) | (go_at_call 34; (with_reducible refine (kit_IsKey.calls k1 ((rd_T29 l0 x10_1).f0) true _ A6.out).mono ?_); rintro e w' ⟨rfl, ⟨nd, rfl⟩⟩; (try first | exact ⟨rfl, _, World.drewN_drewN _ _ _⟩ | exact ⟨rfl, _, Eq.trans (World.drewN_drewN _ _ _) (congrArg (World.drewN _) (Nat.add_assoc _ _ _))⟩))); go_upto_region 8 with (first | ((with_reducible refine gate_dst (N := 4) rfl ?_); refine box_event ?hg (N := 4) ?hd (cs := #[.string (⟨#[]⟩ : ByteArray), .int .i64 0]) (t := 29) ?hr ?_; (case hd => rfl); (case hg => rfl); (case hr => first | (go_simp; done) | (go_simp; rfl)); intro gb143 hg w9 hbox hb; have n0_ := Aside0.mk (below_step (by repeat (first | (with_reducible first | exact HB.out | apply below_alloc | apply pw_below_drewN | apply below_drew1) | exact HB.out)) hb); have n1_ := Aside0.mk (hbox); have n2_ := Aside0.mk ((by rw [hg]; exact (below_size (by repeat (first | (with_reducible first | exact HB.out | apply below_alloc | apply pw_below_drewN | apply below_drew1) | exact HB.out))) : w.heap.size ≤ gb143)); have n3_ := Aside0.mk ((by rw [hg]; exact (below_size (by repeat (first | (with_reducible first | exact HB.out | apply below_alloc | apply pw_below_drewN | apply below_drew1) | exact HB.out))) : w.heap.size ≤ gb143)); clear HB; have HB := n0_; have BK143 := n1_; have GW143 := n2_; have GE143 := n3_; clear n0_ n1_ n2_ n3_; clear hb hbox hg; have hcz10_0 : w9.cell? ⟨gb143, 0, none⟩ = some (.string (⟨#[]⟩ : ByteArray)) := (blk_cell BK143.out 0).trans rfl; have hcz10_1 : w9.cell? ⟨gb143, 1, none⟩ = some (.int .i64 0) := (blk_cell BK143.out 1).trans rfl; have hfz10_0 := blk_frozen BK143.out 0; have hfz10_1 := blk_frozen BK143.out 1) | (go_at_call 34; (with_reducible refine (kit_IsKey.calls k1 ((rd_T29 l0 x10_1).f0) true _ A6.out).mono ?_); rintro e w' ⟨rfl, ⟨nd, rfl⟩⟩; (try first | exact ⟨rfl, _, World.drewN_drewN _ _ _⟩ | exact ⟨rfl, _, Eq.trans (World.drewN_drewN _ _ _) (congrArg (World.drewN _) (Nat.add_assoc _ _ _))⟩))))
                (try simp only [Act.put, List.setIfInBounds_toArray, List.set_cons_zero, List.set_cons_succ])
                go_cut [20] (fun v20 wc => ∃ (kq : Nat) (x20_7 : Bool), v20 = .bool x20_7 ∧ Aside0 (upstream_CheckInstances.j1 kq l0 l0 (l0.length : Int) x10_1 x20_7 ((rd_T29 l0 x10_1).f0) ((rd_T29 l0 x10_1).f1) = some r) ∧ Aside0 (kq ≤ k1) ∧ Aside0 (wc.heap[gb143]? = some (.cells #[.string ((rd_T29 l0 x10_1).f0), .int .i64 ((rd_T29 l0 x10_1).f1)] 29 (0, 0))) ∧ Aside0 (Below w.heap.size w wc))
                case first =>
                  have H := HC8.out
                  clear HC8
                  by_cases c11 : x10_1 > 0
                  · rw [if_pos c11] at H
                    have c11b0 : decide (0 < x10_1) = true := decide_eq_true c11
                    clear c11
                    (first | rw [c11b0] | (simp only [i64_w, i32_w]; rw [c11b0]) | skip)
                    obtain ⟨ji12, hji12⟩ : ∃ j_ : Int, (wrap64 (x10_1 - 1)) = j_ := ⟨_, rfl⟩
                    replace H : (if 0 ≤ (ji12) then (if (ji12) < (l0.length : Int) then (upstream_CheckInstances.j1 k1 l0 l0 (l0.length : Int) x10_1 (!(Op.bytesLess (((rd_T29 l0 (ji12)).f0).toList) (((rd_T29 l0 x10_1).f0).toList))) ((rd_T29 l0 x10_1).f0) ((rd_T29 l0 x10_1).f1)) else (none)) else (none)) = some r := by first | (rw [hji12] at H; exact H) | (simp only [hji12] at H ⊢; exact H)
                    have hji12w : (IntKind.i64.wrap (x10_1 - 1)) = ji12 := (i64_w _).trans hji12
                    by_cases c13 : 0 ≤ (ji12)
                    · rw [if_pos c13] at H
                      have c13b0 : decide (0 ≤ (ji12)) = true := decide_eq_true c13
                      clear c13
                      by_cases c14 : (ji12) < (l0.length : Int)
                      · rw [if_pos c14] at H
                        have c14b0 : decide ((ji12) < (l0.length : Int)) = true := decide_eq_true c14
                        clear c14
                        have H' := Aside0.mk H
                        clear H
                        have hcz15_0 : w9.cell? ⟨gb143, 0, none⟩ = some (.string (⟨#[]⟩ : ByteArray)) := (blk_cell BK143.out 0).trans rfl
                        have hcz15_1 : w9.cell? ⟨gb143, 1, none⟩ = some (.int .i64 0) := (blk_cell BK143.out 1).trans rfl
                        have hfz15_0 := blk_frozen BK143.out 0
                        have hfz15_1 := blk_frozen BK143.out 1
                        have p145 : 0 ≤ ((ji12) : Int) := of_decide_eq_true (by first | (with_reducible assumption) | assumption)
                        have q145 : (ji12) < (l0.length : Int) := of_decide_eq_true (by first | (with_reducible assumption) | assumption)
                        obtain ⟨ad145, e145, hx145_0, hx145_1⟩ := at_T29 HR0.out (ji12) p145 q145
                        obtain rfl : ad142 = ad145 := (by injection e145)
                        have hn145_0 : ad142.block ≠ gb143 := Nat.ne_of_lt (Nat.lt_of_lt_of_le (by have := World.block_lt_of_cell? _ _ hx145_0; first | rwa [add_block] at this | exact this) GW143.out)
                        have hn145_1 : ad142.block ≠ gb143 := Nat.ne_of_lt (Nat.lt_of_lt_of_le (by have := World.block_lt_of_cell? _ _ hx145_0; first | rwa [add_block] at this | exact this) GW143.out)
                        replace hx145_0 := (HB.out.cell (World.block_lt_of_cell? w _ hx145_0)).trans hx145_0
                        replace hx145_1 := (HB.out.cell (World.block_lt_of_cell? w _ hx145_1)).trans hx145_1
                        replace hx145_0 := (cell_far (p := ⟨gb143, 0, none⟩) (by first | (rw [add_block]; exact hn145_0) | (show (Addr.add _ _).block ≠ _; rw [add_block]; exact hn145_0) | exact hn145_0) (.string ((rd_T29 l0 x10_1).f0))).trans hx145_0
                        replace hx145_1 := (cell_far (p := ⟨gb143, 0, none⟩) (by first | (rw [add_block]; exact hn145_0) | (show (Addr.add _ _).block ≠ _; rw [add_block]; exact hn145_0) | exact hn145_0) (.string ((rd_T29 l0 x10_1).f0))).trans hx145_1
                        replace hx145_0 := (cell_far (p := ⟨gb143, 1, none⟩) (by first | (rw [add_block]; exact hn145_1) | (show (Addr.add _ _).block ≠ _; rw [add_block]; exact hn145_1) | exact hn145_1) (.int .i64 ((rd_T29 l0 x10_1).f1))).trans hx145_0
                        replace hx145_1 := (cell_far (p := ⟨gb143, 1, none⟩) (by first | (rw [add_block]; exact hn145_1) | (show (Addr.add _ _).block ≠ _; rw [add_block]; exact hn145_1) | exact hn145_1) (.int .i64 ((rd_T29 l0 x10_1).f1))).trans hx145_1
                        (try have hy145_0 := fun (n_ : Nat) => (show ((((w9.drewN n_).setCell ⟨gb143, 0, none⟩ (.string ((rd_T29 l0 x10_1).f0))).setCell ⟨gb143, 1, none⟩ (.int .i64 ((rd_T29 l0 x10_1).f1)))).cell? _ = some _ from hx145_0))
                        (try have hy145_1 := fun (n_ : Nat) => (show ((((w9.drewN n_).setCell ⟨gb143, 0, none⟩ (.string ((rd_T29 l0 x10_1).f0))).setCell ⟨gb143, 1, none⟩ (.int .i64 ((rd_T29 l0 x10_1).f1)))).cell? _ = some _ from hx145_1))
                        clear hn145_0
                        clear hn145_1
                        replace p145 := eq_true p145
                        replace q145 := eq_true q145
                        go_wp2
                        repeat (go_quiet (fail); try go_wp2)
                        go_meet
                        case rel => exact ⟨_, (!(Op.bytesLess (((rd_T29 l0 (ji12)).f0).toList) (((rd_T29 l0 x10_1).f0).toList))), (by first | rfl | (simp; done) | (simp only [← hji12] <;> (first | rfl | simp)) | (simp [*]; done)), H', ⟨by have := HK1.out; first | omega | exact Nat.le_refl _⟩, ⟨by (with_reducible repeat (first | refine blk_drewN ?_ _ | refine blk_drew ?_ | refine blk_alloc ?_ _)); refine blk_put (cs := #[.string ((rd_T29 l0 x10_1).f0), .int .i64 0]) ?_ 1 _ rfl; (with_reducible repeat (first | refine blk_drewN ?_ _ | refine blk_drew ?_ | refine blk_alloc ?_ _)); refine blk_put (cs := #[.string (⟨#[]⟩ : ByteArray), .int .i64 0]) ?_ 0 _ rfl; (with_reducible repeat (first | refine blk_drewN ?_ _ | refine blk_drew ?_ | refine blk_alloc ?_ _)); exact BK143.out⟩, ⟨by repeat (first | (with_reducible first | exact HB.out | apply below_alloc | apply pw_below_drewN | apply below_drew1 | refine below_set ?_ GE143.out) | exact HB.out)⟩⟩
                      · rw [if_neg c14] at H
                        exact absurd H (by simp)
                    · rw [if_neg c13] at H
                      exact absurd H (by simp)
                  · rw [if_neg c11] at H
                    have c11b0 : decide (0 < x10_1) = false := decide_eq_false c11
                    clear c11
                    (first | rw [c11b0] | (simp only [i64_w, i32_w]; rw [c11b0]) | skip)
                    have H' := Aside0.mk H
                    clear H
                    go_wp2
                    repeat (go_quiet (fail); try go_wp2)
                    go_meet
                    case rel => exact ⟨_, (false), (by first | rfl | (simp; done) | (simp [*]; done)), H', ⟨by have := HK1.out; first | omega | exact Nat.le_refl _⟩, ⟨by (with_reducible repeat (first | refine blk_drewN ?_ _ | refine blk_drew ?_ | refine blk_alloc ?_ _)); refine blk_put (cs := #[.string ((rd_T29 l0 x10_1).f0), .int .i64 0]) ?_ 1 _ rfl; (with_reducible repeat (first | refine blk_drewN ?_ _ | refine blk_drew ?_ | refine blk_alloc ?_ _)); refine blk_put (cs := #[.string (⟨#[]⟩ : ByteArray), .int .i64 0]) ?_ 0 _ rfl; (with_reducible repeat (first | refine blk_drewN ?_ _ | refine blk_drew ?_ | refine blk_alloc ?_ _)); exact BK143.out⟩, ⟨by repeat (first | (with_reducible first | exact HB.out | apply below_alloc | apply pw_below_drewN | apply below_drew1 | refine below_set ?_ GE143.out) | exact HB.out)⟩⟩
                case rest =>
                  clear HC8
                  try clear c1
                  try clear p1
                  try clear q1
                  try clear hx1
                  try clear c2
                  try clear c2b0
                  try clear c2b1
                  try clear p2
                  try clear c3
                  try clear c3b0
                  try clear c4
                  try clear c4b0
                  try clear c5
                  try clear c5b0
                  try clear p6
                  try clear c7
                  try clear c11
                  try clear c11b0
                  try clear c13
                  try clear c13b0
                  try clear c14
                  try clear c14b0
                  try clear p14
                  try clear q14
                  try clear hx14
                  try clear hcz10_0
                  try clear hcz10_1
                  try clear hcz15_0
                  try clear hcz15_1
                  try clear hfz10_0
                  try clear hfz10_1
                  try clear hfz15_0
                  try clear hfz15_1
                  try clear hx142_0
                  try clear hx142_1
                  try clear hx145_0
                  try clear hx145_1
                  try clear p142
                  try clear p145
                  try clear p2
                  try clear q142
                  try clear q145
                  obtain ⟨kq, x20_7, rfl, HA, HJ7, BK143, HB⟩ := hcut
                  cases kq with
                  | zero => exact absurd HA.out (by simp [upstream_CheckInstances.j1])
                  | succ kj7 =>
                    have H := HA.out
                    clear HA
                    simp only [upstream_CheckInstances.j1] at H
                    by_cases c16 : x20_7 = true
                    · subst c16
                      have H1 : (some 7) = some r := by rw [if_pos rfl] at H; exact H
                      clear H
                      have H := H1
                      clear H1
                      obtain rfl := Option.some.inj H
                      go_wp2
                      repeat (go_quiet (fail); try go_wp2)
                      go_ret
                      exact ⟨by first | rfl | (simp [errW_none, errW_some] <;> rfl) | (simp [*, errW_none, errW_some] <;> rfl), by repeat (first | (with_reducible first | exact HB.out | apply below_alloc | apply pw_below_drewN | apply below_drew1 | refine below_set ?_ GE143.out) | exact HB.out)⟩
                    · replace c16 := Bool.eq_false_iff.mpr c16
                      subst c16
                      have H1 : ((kit_Outside.f ((rd_T29 l0 x10_1).f1) 1 100).bind fun t146 => (if t146 = true then (some 1) else (upstream_CheckInstances.l0 kj7 l0 l0 (l0.length : Int) (wrap64 (x10_1 + 1))))) = some r := by rw [if_neg (show ¬ (false = true) by decide)] at H; exact H
                      clear H
                      have H := H1
                      clear H1
                      replace H := Option.bind_eq_some_iff.mp H
                      obtain ⟨t146, A170, H⟩ := H
                      replace H : (if t146 = true then (some 1) else (upstream_CheckInstances.l0 kj7 l0 l0 (l0.length : Int) (wrap64 (x10_1 + 1)))) = some r := H
                      have A17 := Aside0.mk A170
                      clear A170
                      by_cases c18 : t146 = true
                      · subst c18
                        have H1 : (some 1) = some r := by rw [if_pos rfl] at H; exact H
                        clear H
                        have H := H1
                        clear H1
                        obtain rfl := Option.some.inj H
                        have hcz19_0 : wc.cell? ⟨gb143, 0, none⟩ = some (.string ((rd_T29 l0 x10_1).f0)) := (blk_cell BK143.out 0).trans rfl
                        have hcz19_1 : wc.cell? ⟨gb143, 1, none⟩ = some (.int .i64 ((rd_T29 l0 x10_1).f1)) := (blk_cell BK143.out 1).trans rfl
                        have hfz19_0 := blk_frozen BK143.out 0
                        have hfz19_1 := blk_frozen BK143.out 1
                        go_wp2_with (first | (go_at_call 18; (with_reducible refine (kit_Outside.calls ((rd_T29 l0 x10_1).f1) 1 100 true _ A17.out).mono ?_); rintro e w' ⟨rfl, ⟨nd, rfl⟩⟩; (try first | exact ⟨rfl, _, World.drewN_drewN _ _ _⟩ | exact ⟨rfl, _, Eq.trans (World.drewN_drewN _ _ _) (congrArg (World.drewN _) (Nat.add_assoc _ _ _))⟩)))
                        repeat (go_quiet (first | (go_at_call 18; (with_reducible refine (kit_Outside.calls ((rd_T29 l0 x10_1).f1) 1 100 true _ A17.out).mono ?_); rintro e w' ⟨rfl, ⟨nd, rfl⟩⟩; (try first | exact ⟨rfl, _, World.drewN_drewN _ _ _⟩ | exact ⟨rfl, _, Eq.trans (World.drewN_drewN _ _ _) (congrArg (World.drewN _) (Nat.add_assoc _ _ _))⟩))); try go_wp2_with (first | (go_at_call 18; (with_reducible refine (kit_Outside.calls ((rd_T29 l0 x10_1).f1) 1 100 true _ A17.out).mono ?_); rintro e w' ⟨rfl, ⟨nd, rfl⟩⟩; (try first | exact ⟨rfl, _, World.drewN_drewN _ _ _⟩ | exact ⟨rfl, _, Eq.trans (World.drewN_drewN _ _ _) (congrArg (World.drewN _) (Nat.add_assoc _ _ _))⟩))))
                        go_ret
                        exact ⟨by first | rfl | (simp [errW_none, errW_some] <;> rfl) | (simp [*, errW_none, errW_some] <;> rfl), by repeat (first | (with_reducible first | exact HB.out | apply below_alloc | apply pw_below_drewN | apply below_drew1 | refine below_set ?_ GE143.out) | exact HB.out)⟩
                      · replace c18 := Bool.eq_false_iff.mpr c18
                        subst c18
                        have H1 : (upstream_CheckInstances.l0 kj7 l0 l0 (l0.length : Int) (wrap64 (x10_1 + 1))) = some r := by rw [if_neg (show ¬ (false = true) by decide)] at H; exact H
                        clear H
                        have H := H1
                        clear H1
                        have H' := Aside0.mk H
                        clear H
                        have hcz20_0 : wc.cell? ⟨gb143, 0, none⟩ = some (.string ((rd_T29 l0 x10_1).f0)) := (blk_cell BK143.out 0).trans rfl
                        have hcz20_1 : wc.cell? ⟨gb143, 1, none⟩ = some (.int .i64 ((rd_T29 l0 x10_1).f1)) := (blk_cell BK143.out 1).trans rfl
                        have hfz20_0 := blk_frozen BK143.out 0
                        have hfz20_1 := blk_frozen BK143.out 1
                        go_wp2_with (first | (go_at_call 18; (with_reducible refine (kit_Outside.calls ((rd_T29 l0 x10_1).f1) 1 100 false _ A17.out).mono ?_); rintro e w' ⟨rfl, ⟨nd, rfl⟩⟩; (try first | exact ⟨rfl, _, World.drewN_drewN _ _ _⟩ | exact ⟨rfl, _, Eq.trans (World.drewN_drewN _ _ _) (congrArg (World.drewN _) (Nat.add_assoc _ _ _))⟩)))
                        repeat (go_quiet (first | (go_at_call 18; (with_reducible refine (kit_Outside.calls ((rd_T29 l0 x10_1).f1) 1 100 false _ A17.out).mono ?_); rintro e w' ⟨rfl, ⟨nd, rfl⟩⟩; (try first | exact ⟨rfl, _, World.drewN_drewN _ _ _⟩ | exact ⟨rfl, _, Eq.trans (World.drewN_drewN _ _ _) (congrArg (World.drewN _) (Nat.add_assoc _ _ _))⟩))); try go_wp2_with (first | (go_at_call 18; (with_reducible refine (kit_Outside.calls ((rd_T29 l0 x10_1).f1) 1 100 false _ A17.out).mono ?_); rintro e w' ⟨rfl, ⟨nd, rfl⟩⟩; (try first | exact ⟨rfl, _, World.drewN_drewN _ _ _⟩ | exact ⟨rfl, _, Eq.trans (World.drewN_drewN _ _ _) (congrArg (World.drewN _) (Nat.add_assoc _ _ _))⟩))))
                        go_roundg kj7
                        case measure => have := HK1.out; have := HJ7.out; omega
                        case rel => exact ⟨(wrap64 (x10_1 + 1)), (by first | rfl | (simp; done) | (simp [*]; done)), H', ⟨by have := HK1.out; have := HJ7.out; omega⟩, ⟨by repeat (first | (with_reducible first | exact HB.out | apply below_alloc | apply pw_below_drewN | apply below_drew1 | refine below_set ?_ GE143.out) | exact HB.out)⟩⟩
              · replace c7 := Bool.eq_false_iff.mpr c7
                subst c7
                have H1 : (some 5) = some r := by rw [if_neg (show ¬ (false = true) by decide)] at H; exact H
                clear H
                have H := H1
                clear H1
                obtain rfl := Option.some.inj H
                have p142 : 0 ≤ (x10_1 : Int) := of_decide_eq_true (by first | (with_reducible assumption) | assumption)
                have q142 : x10_1 < (l0.length : Int) := of_decide_eq_true (by first | (with_reducible assumption) | assumption)
                obtain ⟨ad142, e142, hx142_0, hx142_1⟩ := at_T29 HR0.out x10_1 p142 q142
                cases e142
                replace hx142_0 := (HB.out.cell (World.block_lt_of_cell? w _ hx142_0)).trans hx142_0
                replace hx142_1 := (HB.out.cell (World.block_lt_of_cell? w _ hx142_1)).trans hx142_1
                replace p142 := eq_true p142
                replace q142 := eq_true q142
                go_wp2_with (first | ((with_reducible refine gate_dst (N := 4) rfl ?_); refine box_event ?hg (N := 4) ?hd (cs := #[.string (⟨#[]⟩ : ByteArray), .int .i64 0]) (t := 29) ?hr ?_; (case hd => rfl); (case hg => rfl); (case hr => first | (go_simp; done) | (go_simp; rfl)); intro gb143 hg w21 hbox hb; have n0_ := Aside0.mk (below_step (by repeat (first | (with_reducible first | exact HB.out | apply below_alloc | apply pw_below_drewN | apply below_drew1) | exact HB.out)) hb); have n1_ := Aside0.mk (hbox); have n2_ := Aside0.mk ((by rw [hg]; exact (below_size (by repeat (first | (with_reducible first | exact HB.out | apply below_alloc | apply pw_below_drewN | apply below_drew1) | exact HB.out))) : w.heap.size ≤ gb143)); have n3_ := Aside0.mk ((by rw [hg]; exact (below_size (by repeat (first | (with_reducible first | exact HB.out | apply below_alloc | apply pw_below_drewN | apply below_drew1) | exact HB.out))) : w.heap.size ≤ gb143)); clear HB; have HB := n0_; have BK143 := n1_; have GW143 := n2_; have GE143 := n3_; clear n0_ n1_ n2_ n3_; clear hb hbox hg; have hcz22_0 : w21.cell? ⟨gb143, 0, none⟩ = some (.string (⟨#[]⟩ : ByteArray)) := (blk_cell BK143.out 0).trans rfl; have hcz22_1 : w21.cell? ⟨gb143, 1, none⟩ = some (.int .i64 0) := (blk_cell BK143.out 1).trans rfl; have hfz22_0 := blk_frozen BK143.out 0; have hfz22_1 := blk_frozen BK143.out 1) | (go_at_call 34; (with_reducible refine (kit_IsKey.calls k1 ((rd_T29 l0 x10_1).f0) false _ A6.out).mono ?_); rintro e w' ⟨rfl, ⟨nd, rfl⟩⟩; (try first | exact ⟨rfl, _, World.drewN_drewN _ _ _⟩ | exact ⟨rfl, _, Eq.trans (World.drewN_drewN _ _ _) (congrArg (World.drewN _) (Nat.add_assoc _ _ _))⟩)))
                repeat (go_quiet (first | ((with_reducible refine gate_dst (N := 4) rfl ?_); refine box_event ?hg (N := 4) ?hd (cs := #[.string (⟨#[]⟩ : ByteArray), .int .i64 0]) (t := 29) ?hr ?_; (case hd => rfl); (case hg => rfl); (case hr => first | (go_simp; done) | (go_simp; rfl)); intro gb143 hg w21 hbox hb; have n0_ := Aside0.mk (below_step (by repeat (first | (with_reducible first | exact HB.out | apply below_alloc | apply pw_below_drewN | apply below_drew1) | exact HB.out)) hb); have n1_ := Aside0.mk (hbox); have n2_ := Aside0.mk ((by rw [hg]; exact (below_size (by repeat (first | (with_reducible first | exact HB.out | apply below_alloc | apply pw_below_drewN | apply below_drew1) | exact HB.out))) : w.heap.size ≤ gb143)); have n3_ := Aside0.mk ((by rw [hg]; exact (below_size (by repeat (first | (with_reducible first | exact HB.out | apply below_alloc | apply pw_below_drewN | apply below_drew1) | exact HB.out))) : w.heap.size ≤ gb143)); clear HB; have HB := n0_; have BK143 := n1_; have GW143 := n2_; have GE143 := n3_; clear n0_ n1_ n2_ n3_; clear hb hbox hg; have hcz22_0 : w21.cell? ⟨gb143, 0, none⟩ = some (.string (⟨#[]⟩ : ByteArray)) := (blk_cell BK143.out 0).trans rfl; have hcz22_1 : w21.cell? ⟨gb143, 1, none⟩ = some (.int .i64 0) := (blk_cell BK143.out 1).trans rfl; have hfz22_0 := blk_frozen BK143.out 0; have hfz22_1 := blk_frozen BK143.out 1) | (go_at_call 34; (with_reducible refine (kit_IsKey.calls k1 ((rd_T29 l0 x10_1).f0) false _ A6.out).mono ?_); rintro e w' ⟨rfl, ⟨nd, rfl⟩⟩; (try first | exact ⟨rfl, _, World.drewN_drewN _ _ _⟩ | exact ⟨rfl, _, Eq.trans (World.drewN_drewN _ _ _) (congrArg (World.drewN _) (Nat.add_assoc _ _ _))⟩))); try go_wp2_with (first | ((with_reducible refine gate_dst (N := 4) rfl ?_); refine box_event ?hg (N := 4) ?hd (cs := #[.string (⟨#[]⟩ : ByteArray), .int .i64 0]) (t := 29) ?hr ?_; (case hd => rfl); (case hg => rfl); (case hr => first | (go_simp; done) | (go_simp; rfl)); intro gb143 hg w21 hbox hb; have n0_ := Aside0.mk (below_step (by repeat (first | (with_reducible first | exact HB.out | apply below_alloc | apply pw_below_drewN | apply below_drew1) | exact HB.out)) hb); have n1_ := Aside0.mk (hbox); have n2_ := Aside0.mk ((by rw [hg]; exact (below_size (by repeat (first | (with_reducible first | exact HB.out | apply below_alloc | apply pw_below_drewN | apply below_drew1) | exact HB.out))) : w.heap.size ≤ gb143)); have n3_ := Aside0.mk ((by rw [hg]; exact (below_size (by repeat (first | (with_reducible first | exact HB.out | apply below_alloc | apply pw_below_drewN | apply below_drew1) | exact HB.out))) : w.heap.size ≤ gb143)); clear HB; have HB := n0_; have BK143 := n1_; have GW143 := n2_; have GE143 := n3_; clear n0_ n1_ n2_ n3_; clear hb hbox hg; have hcz22_0 : w21.cell? ⟨gb143, 0, none⟩ = some (.string (⟨#[]⟩ : ByteArray)) := (blk_cell BK143.out 0).trans rfl; have hcz22_1 : w21.cell? ⟨gb143, 1, none⟩ = some (.int .i64 0) := (blk_cell BK143.out 1).trans rfl; have hfz22_0 := blk_frozen BK143.out 0; have hfz22_1 := blk_frozen BK143.out 1) | (go_at_call 34; (with_reducible refine (kit_IsKey.calls k1 ((rd_T29 l0 x10_1).f0) false _ A6.out).mono ?_); rintro e w' ⟨rfl, ⟨nd, rfl⟩⟩; (try first | exact ⟨rfl, _, World.drewN_drewN _ _ _⟩ | exact ⟨rfl, _, Eq.trans (World.drewN_drewN _ _ _) (congrArg (World.drewN _) (Nat.add_assoc _ _ _))⟩))))
                go_ret
                exact ⟨by first | rfl | (simp [errW_none, errW_some] <;> rfl) | (simp [*, errW_none, errW_some] <;> rfl), by repeat (first | (with_reducible first | exact HB.out | apply below_alloc | apply pw_below_drewN | apply below_drew1 | refine below_set ?_ GE143.out) | exact HB.out)⟩
            · rw [if_neg c5] at H
              exact absurd H (by simp)
          · rw [if_neg c4] at H
            exact absurd H (by simp)
        · rw [if_neg c3] at H
          have c3b0 : decide (x10_1 < (l0.length : Int)) = false := decide_eq_false c3
          clear c3
          obtain rfl := Option.some.inj H
          go_wp2
          repeat (go_quiet (fail); try go_wp2)
          go_ret
          exact ⟨by first | rfl | (simp [errW_none, errW_some] <;> rfl) | (simp [*, errW_none, errW_some] <;> rfl), by repeat (first | (with_reducible first | exact HB.out | apply below_alloc | apply pw_below_drewN | apply below_drew1) | exact HB.out)⟩

end Go.Proofs.YthgjnpmebjlecaaGreatDoor.P
/- The machine's side, printed by a program of this session: each Go function named below comes to the Lean function of its name; conditions: those of each theorem. -/
namespace Go.Proofs.YthgjnpmebjlecaaGreatDoor.P
open Go.RowKit Go.Proofs.YthgjnpmebjlecaaGreatDoorW.PrintWords Go.Proofs.YthgjnpmebjlecaaGreatDoorW.PrintLast Go.Proofs.YthgjnpmebjlecaaGreatDoorW.PrintMore
attribute [local go_sem] max2_int min2_int max_two min_two max_three min_three max_four min_four   -- for this text's walks alone
set_option linter.unusedVariables false
set_option linter.unusedSimpArgs false

/-! ### upstream_weights: function 19 -/
def upstream_weights.l0 : Nat → Int → List (S29) → Int → Int → Option (Int)
  | 0, _, _, _, _ => none
  | k + 1, x3, x6, x7, x8 => if x8 < x7 then (if 0 ≤ x8 then (if x8 < (x6.length : Int) then (upstream_weights.l0 k (wrap64 (x3 + ((rd_T29 x6 x8).f1))) x6 x7 (wrap64 (x8 + 1))) else (none)) else (none)) else (some x3)
def upstream_weights.f (k : Nat) (l0 : List (S29)) : Option (Int) := upstream_weights.l0 k 0 l0 (l0.length : Int) 0
theorem upstream_weights.mono_l : ∀ k, (∀ y0 y1 y2 y3, LeO (upstream_weights.l0 k y0 y1 y2 y3) (upstream_weights.l0 (k + 1) y0 y1 y2 y3))
  | 0 => fun _ _ _ _ r h => by simp [upstream_weights.l0] at h
  | k + 1 => by
    have ih0 := upstream_weights.mono_l k
    · intro y0 y1 y2 y3
      unfold upstream_weights.l0
      repeat' first
      | (with_reducible exact ih0 _ _ _ _)
      | (with_reducible exact LeO.refl _)
      | (with_reducible exact LeO.none _)
      | (with_reducible refine LeO.ite ?_ ?_)
      | (with_reducible refine LeO.bind ?_ (fun _ => ?_))
      | exact ih0 _ _ _ _
      | exact LeO.none _
      | refine LeO.ite ?_ ?_
      | refine LeO.bind ?_ (fun _ => ?_)
theorem upstream_weights.mono : ∀ a0 k, LeO (upstream_weights.f k a0) (upstream_weights.f (k + 1) a0) := by
  intro a0 k
  have ih0 := upstream_weights.mono_l k
  unfold upstream_weights.f
  repeat' first
      | (with_reducible exact ih0 _ _ _ _)
      | (with_reducible exact LeO.refl _)
      | (with_reducible exact LeO.none _)
      | (with_reducible refine LeO.ite ?_ ?_)
      | (with_reducible refine LeO.bind ?_ (fun _ => ?_))
      | exact ih0 _ _ _ _
      | exact LeO.none _
      | refine LeO.ite ?_ ?_
      | refine LeO.bind ?_ (fun _ => ?_)
set_option maxHeartbeats 8000000 in
set_option maxRecDepth 100000 in
theorem upstream_weights.calls (k : Nat) (A0 : Option Addr) (c0 : Nat) (l0 : List (S29)) (r : Int) (w : World) (hr0 : Kd.C k29 w A0 l0.length l0) (hc0 : l0.length ≤ c0) (h : upstream_weights.f k l0 = some r) :
    Calls Tryz.prog 19 #[.slice A0 l0.length c0] w fun e w' => e = .returned (.int .i64 r) ∧ Below w.heap.size w w' := by
  have hu29 := Tryz.underlying29
  have HR0 := Aside0.mk hr0
  have HC0 := Aside0.mk hc0
  clear hr0 hc0
  have HB := Aside0.mk (Below.refl w.heap.size w)
  have H : (upstream_weights.l0 k 0 l0 (l0.length : Int) 0) = some r := h
  clear h
  have H' := Aside0.mk H
  clear H
  go_enter Tryz.func19, Tryz.ntmps19
  go_wp2
  go_loopg [3, 8] k (fun kq v3 v8 w' => ∃ (x3_1 : Int) (x8_1 : Int), v3 = .int .i64 x3_1 ∧ v8 = .int .i64 x8_1 ∧ Aside0 (upstream_weights.l0 kq x3_1 l0 (l0.length : Int) x8_1 = some r) ∧ Aside0 (kq ≤ k) ∧ Aside0 (Below w.heap.size w w'))
  case atStart => exact ⟨(0), (0), (by first | rfl | (simp; done) | (simp [*]; done)), (by first | rfl | (simp; done) | (simp [*]; done)), H', ⟨Nat.le_refl _⟩, ⟨by repeat (first | (with_reducible first | exact HB.out | apply below_alloc | apply pw_below_drewN | apply below_drew1) | exact HB.out)⟩⟩
  case round =>
    clear H'
    try clear c1
    obtain ⟨x3_1, x8_1, rfl, rfl, HA, HK1, HB⟩ := hrel
    cases gk with
    | zero => exact absurd HA.out (by simp [upstream_weights.l0])
    | succ k1 =>
      have H := HA.out
      clear HA
      simp only [upstream_weights.l0] at H
      by_cases c2 : x8_1 < (l0.length : Int)
      · rw [if_pos c2] at H
        have c2b0 : decide (x8_1 < (l0.length : Int)) = true := decide_eq_true c2
        clear c2
        by_cases c3 : 0 ≤ x8_1
        · rw [if_pos c3] at H
          have c3b0 : decide (0 ≤ x8_1) = true := decide_eq_true c3
          clear c3
          by_cases c4 : x8_1 < (l0.length : Int)
          · rw [if_pos c4] at H
            have c4b0 : decide (x8_1 < (l0.length : Int)) = true := decide_eq_true c4
            clear c4
            have H' := Aside0.mk H
            clear H
            have p147 : 0 ≤ (x8_1 : Int) := of_decide_eq_true (by first | (with_reducible assumption) | assumption)
            have q147 : x8_1 < (l0.length : Int) := of_decide_eq_true (by first | (with_reducible assumption) | assumption)
            obtain ⟨ad147, e147, hx147_0, hx147_1⟩ := at_T29 HR0.out x8_1 p147 q147
            cases e147
            replace hx147_0 := (HB.out.cell (World.block_lt_of_cell? w _ hx147_0)).trans hx147_0
            replace hx147_1 := (HB.out.cell (World.block_lt_of_cell? w _ hx147_1)).trans hx147_1
            replace p147 := eq_true p147
            replace q147 := eq_true q147
            go_wp2_with (first | ((with_reducible refine gate_dst (N := 5) rfl ?_); refine box_event ?hg (N := 5) ?hd (cs := #[.string (⟨#[]⟩ : ByteArray), .int .i64 0]) (t := 29) ?hr ?_; (case hd => rfl); (case hg => rfl); (case hr => first | (go_simp; done) | (go_simp; rfl)); intro gb148 hg w5 hbox hb; have n0_ := Aside0.mk (below_step (by repeat (first | (with_reducible first | exact HB.out | apply below_alloc | apply pw_below_drewN | apply below_drew1) | exact HB.out)) hb); have n1_ := Aside0.mk (hbox); have n2_ := Aside0.mk ((by rw [hg]; exact (below_size (by repeat (first | (with_reducible first | exact HB.out | apply below_alloc | apply pw_below_drewN | apply below_drew1) | exact HB.out))) : w.heap.size ≤ gb148)); have n3_ := Aside0.mk ((by rw [hg]; exact (below_size (by repeat (first | (with_reducible first | exact HB.out | apply below_alloc | apply pw_below_drewN | apply below_drew1) | exact HB.out))) : w.heap.size ≤ gb148)); clear HB; have HB := n0_; have BK148 := n1_; have GW148 := n2_; have GE148 := n3_; clear n0_ n1_ n2_ n3_; clear hb hbox hg; have hcz6_0 : w5.cell? ⟨gb148, 0, none⟩ = some (.string (⟨#[]⟩ : ByteArray)) := (blk_cell BK148.out 0).trans rfl; have hcz6_1 : w5.cell? ⟨gb148, 1, none⟩ = some (.int .i64 0) := (blk_cell BK148.out 1).trans rfl; have hfz6_0 := blk_frozen BK148.out 0; have hfz6_1 := blk_frozen BK148.out 1))
            go_roundg k1
            case measure => have := HK1.out; omega
            case rel => exact ⟨(wrap64 (x3_1 + ((rd_T29 l0 x8_1).f1))), (wrap64 (x8_1 + 1)), (by first | rfl | (simp; done) | (simp [*]; done)), (by first | rfl | (simp; done) | (simp [*]; done)), H', ⟨by have := HK1.out; omega⟩, ⟨by repeat (first | (with_reducible first | exact HB.out | apply below_alloc | apply pw_below_drewN | apply below_drew1 | refine below_set ?_ GE148.out) | exact HB.out)⟩⟩
          · rw [if_neg c4] at H
            exact absurd H (by simp)
        · rw [if_neg c3] at H
          exact absurd H (by simp)
      · rw [if_neg c2] at H
        have c2b0 : decide (x8_1 < (l0.length : Int)) = false := decide_eq_false c2
        clear c2
        obtain rfl := Option.some.inj H
        go_wp2
        go_ret
        exact ⟨by first | rfl | (simp [errW_none, errW_some] <;> rfl) | (simp [*, errW_none, errW_some] <;> rfl), by repeat (first | (with_reducible first | exact HB.out | apply below_alloc | apply pw_below_drewN | apply below_drew1) | exact HB.out)⟩

end Go.Proofs.YthgjnpmebjlecaaGreatDoor.P
