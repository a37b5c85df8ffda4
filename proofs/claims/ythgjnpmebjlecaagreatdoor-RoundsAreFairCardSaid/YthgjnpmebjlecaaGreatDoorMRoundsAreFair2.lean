/- Several texts of one proof in one file, one after another, each with its own head: the machine's side of a law and the plain side; conditions: those of each theorem. -/
import Derived.Test.YthgjnpmebjlecaaGreatDoorMRoundsAreFair0
import Derived.Test.YthgjnpmebjlecaaGreatDoorMRoundsAreFair1
import Derived.Shelf.Strings.BuilderK
import Derived.Shelf.Strings.MapGrows
import Derived.Test.YthgjnpmebjlecaaGreatDoorWWords
import Derived.WalkKit
import Derived.Below
/- The machine's side, printed by a program of this session: each Go function named below comes to the Lean function of its name; conditions: those of each theorem. -/
namespace Go.Proofs.YthgjnpmebjlecaaGreatDoor.P
open Go.RowKit Go.Proofs.YthgjnpmebjlecaaGreatDoorW.PrintWords Go.Proofs.YthgjnpmebjlecaaGreatDoorW.PrintLast Go.Proofs.YthgjnpmebjlecaaGreatDoorW.PrintMore
attribute [local go_sem] max2_int min2_int max_two min_two max_three min_three max_four min_four   -- for this text's walks alone
set_option linter.unusedVariables false
set_option linter.unusedSimpArgs false

/-! ### message_IsField: function 52 -/
def message_IsField.f (k : Nat) (a0 : ByteArray) : Option (Bool) := if (a0.size : Int) ≤ 2000 then ((message_isRange.f k a0 32 126).bind fun t248 => (if t248 = true then ((Ext.strings_Trim.f a0 (⟨#[32]⟩ : ByteArray)).bind fun t249 => (some (t249.toList == a0.toList))) else (some false))) else (some false)
theorem message_IsField.mono : ∀ a0 k, LeO (message_IsField.f k a0) (message_IsField.f (k + 1) a0) := by
  intro a0 k
  unfold message_IsField.f
  repeat' first
      | (with_reducible exact message_isRange.mono _ _ _ _)
      | (with_reducible exact LeO.refl _)
      | (with_reducible exact LeO.none _)
      | (with_reducible refine LeO.ite ?_ ?_)
      | (with_reducible refine LeO.bind ?_ (fun _ => ?_))
      | exact message_isRange.mono _ _ _ _
      | exact LeO.none _
      | refine LeO.ite ?_ ?_
      | refine LeO.bind ?_ (fun _ => ?_)
set_option maxHeartbeats 8000000 in
set_option maxRecDepth 100000 in
theorem message_IsField.calls (k : Nat) (a0 : ByteArray) (r : Bool) (w : World) (h : message_IsField.f k a0 = some r) :
    Calls Tryz.prog 52 #[.string a0] w fun e w' => e = .returned (.bool r) ∧ Drawn0 w w' := by
  have H : (if (a0.size : Int) ≤ 2000 then ((message_isRange.f k a0 32 126).bind fun t248 => (if t248 = true then ((Ext.strings_Trim.f a0 (⟨#[32]⟩ : ByteArray)).bind fun t249 => (some (t249.toList == a0.toList))) else (some false))) else (some false)) = some r := h
  clear h
  by_cases c2 : (a0.size : Int) ≤ 2000
  · rw [if_pos c2] at H
    have c2b0 : decide ((a0.size : Int) ≤ 2000) = true := decide_eq_true c2
    have c2b1 : decide (a0.size ≤ 2000) = true := decide_eq_true (by omega)
    clear c2
    replace H := Option.bind_eq_some_iff.mp H
    obtain ⟨t248, A30, H⟩ := H
    replace H : (if t248 = true then ((Ext.strings_Trim.f a0 (⟨#[32]⟩ : ByteArray)).bind fun t249 => (some (t249.toList == a0.toList))) else (some false)) = some r := H
    have A3 := Aside0.mk A30
    clear A30
    by_cases c4 : t248 = true
    · subst c4
      have H1 : ((Ext.strings_Trim.f a0 (⟨#[32]⟩ : ByteArray)).bind fun t249 => (some (t249.toList == a0.toList))) = some r := by rw [if_pos rfl] at H; exact H
      clear H
      have H := H1
      clear H1
      replace H := Option.bind_eq_some_iff.mp H
      obtain ⟨t249, A50, H⟩ := H
      replace H : (some (t249.toList == a0.toList)) = some r := H
      have A5 := Aside0.mk A50
      clear A50
      obtain rfl := Option.some.inj H
      go_enter Tryz.func52, Tryz.ntmps52
      go_wp2_with (first | (go_at_call 57; (with_reducible refine (message_isRange.calls k a0 32 126 true _ A3.out).mono ?_); rintro e w' ⟨rfl, ⟨nd, rfl⟩⟩) | (go_at_call 84; (with_reducible refine (Ext.strings_Trim.calls a0 (⟨#[32]⟩ : ByteArray) t249 _ A5.out).mono ?_); rintro e w' ⟨rfl, ⟨nd, rfl⟩⟩))
      go_ret
      exact ⟨by first | rfl | (simp; done) | (simp [*]; done), by repeat (first | exact Drawn0.refl _ | apply Drawn0.step)⟩
    · replace c4 := Bool.eq_false_iff.mpr c4
      subst c4
      have H1 : (some false) = some r := by rw [if_neg (show ¬ (false = true) by decide)] at H; exact H
      clear H
      have H := H1
      clear H1
      obtain rfl := Option.some.inj H
      go_enter Tryz.func52, Tryz.ntmps52
      go_wp2_with (first | (go_at_call 57; (with_reducible refine (message_isRange.calls k a0 32 126 false _ A3.out).mono ?_); rintro e w' ⟨rfl, ⟨nd, rfl⟩⟩))
      go_ret
      exact ⟨by first | rfl | (simp; done) | (simp [*]; done), by repeat (first | exact Drawn0.refl _ | apply Drawn0.step)⟩
  · rw [if_neg c2] at H
    have c2b0 : decide ((a0.size : Int) ≤ 2000) = false := decide_eq_false c2
    have c2b1 : decide (a0.size ≤ 2000) = false := decide_eq_false (by omega)
    clear c2
    obtain rfl := Option.some.inj H
    go_enter Tryz.func52, Tryz.ntmps52
    go_wp2
    go_ret
    exact ⟨by first | rfl | (simp; done) | (simp [*]; done), by repeat (first | exact Drawn0.refl _ | apply Drawn0.step)⟩

end Go.Proofs.YthgjnpmebjlecaaGreatDoor.P
/- The machine's side, printed by a program of this session: each Go function named below comes to the Lean function of its name; conditions: those of each theorem. -/
namespace Go.Proofs.YthgjnpmebjlecaaGreatDoor.P
open Go.RowKit Go.Proofs.YthgjnpmebjlecaaGreatDoorW.PrintWords Go.Proofs.YthgjnpmebjlecaaGreatDoorW.PrintLast Go.Proofs.YthgjnpmebjlecaaGreatDoorW.PrintMore
attribute [local go_sem] max2_int min2_int max_two min_two max_three min_three max_four min_four   -- for this text's walks alone
set_option linter.unusedVariables false
set_option linter.unusedSimpArgs false

/-! ### message_CheckHeaders: function 32 -/
def message_CheckHeaders.l0 : Nat → List (S49) → Int → Int → Option (Int)
  | 0, _, _, _ => none
  | k + 1, x8, x9, x10 => if x10 < x9 then (if 0 ≤ x10 then (if x10 < (x8.length : Int) then ((message_IsToken.f k ((rd_T49 x8 x10).f0)).bind fun t252 => (if t252 = true then ((message_IsField.f k ((rd_T49 x8 x10).f1)).bind fun t253 => (if t253 = true then (message_CheckHeaders.l0 k x8 x9 (wrap64 (x10 + 1))) else (some 3))) else (some 5))) else (none)) else (none)) else (some 0)
def message_CheckHeaders.f (k : Nat) (l0 : List (S49)) : Option (Int) := if (l0.length : Int) > 50 then (some 2) else (message_CheckHeaders.l0 k l0 (l0.length : Int) 0)
theorem message_CheckHeaders.mono_l : ∀ k, (∀ y0 y1 y2, LeO (message_CheckHeaders.l0 k y0 y1 y2) (message_CheckHeaders.l0 (k + 1) y0 y1 y2))
  | 0 => fun _ _ _ r h => by simp [message_CheckHeaders.l0] at h
  | k + 1 => by
    have ih0 := message_CheckHeaders.mono_l k
    · intro y0 y1 y2
      unfold message_CheckHeaders.l0
      repeat' first
      | (with_reducible exact ih0 _ _ _)
      | (with_reducible exact message_IsField.mono _ _)
      | (with_reducible exact message_IsToken.mono _ _)
      | (with_reducible exact LeO.refl _)
      | (with_reducible exact LeO.none _)
      | (with_reducible refine LeO.ite ?_ ?_)
      | (with_reducible refine LeO.bind ?_ (fun _ => ?_))
      | exact ih0 _ _ _
      | exact message_IsField.mono _ _
      | exact message_IsToken.mono _ _
      | exact LeO.none _
      | refine LeO.ite ?_ ?_
      | refine LeO.bind ?_ (fun _ => ?_)
theorem message_CheckHeaders.mono : ∀ a0 k, LeO (message_CheckHeaders.f k a0) (message_CheckHeaders.f (k + 1) a0) := by
  intro a0 k
  have ih0 := message_CheckHeaders.mono_l k
  unfold message_CheckHeaders.f
  repeat' first
      | (with_reducible exact ih0 _ _ _)
      | (with_reducible exact message_IsField.mono _ _)
      | (with_reducible exact message_IsToken.mono _ _)
      | (with_reducible exact LeO.refl _)
      | (with_reducible exact LeO.none _)
      | (with_reducible refine LeO.ite ?_ ?_)
      | (with_reducible refine LeO.bind ?_ (fun _ => ?_))
      | exact ih0 _ _ _
      | exact message_IsField.mono _ _
      | exact message_IsToken.mono _ _
      | exact LeO.none _
      | refine LeO.ite ?_ ?_
      | refine LeO.bind ?_ (fun _ => ?_)
set_option maxHeartbeats 8000000 in
set_option maxRecDepth 100000 in
theorem message_CheckHeaders.calls (k : Nat) (A0 : Option Addr) (c0 : Nat) (l0 : List (S49)) (r : Int) (w : World) (hr0 : Kd.C k49 w A0 l0.length l0) (hc0 : l0.length ≤ c0) (h : message_CheckHeaders.f k l0 = some r) :
    Calls Tryz.prog 32 #[.slice A0 l0.length c0] w fun e w' => e = .returned (.int .i64 r) ∧ Below w.heap.size w w' := by
  have hu49 := Tryz.underlying49
  have HR0 := Aside0.mk hr0
  have HC0 := Aside0.mk hc0
  clear hr0 hc0
  have HB := Aside0.mk (Below.refl w.heap.size w)
  have H : (if (l0.length : Int) > 50 then (some 2) else (message_CheckHeaders.l0 k l0 (l0.length : Int) 0)) = some r := h
  clear h
  by_cases c2 : (l0.length : Int) > 50
  · rw [if_pos c2] at H
    have c2b0 : decide (50 < (l0.length : Int)) = true := decide_eq_true c2
    have c2b1 : decide (50 < l0.length) = true := decide_eq_true (by omega)
    clear c2
    obtain rfl := Option.some.inj H
    go_enter Tryz.func32, Tryz.ntmps32
    go_wp2
    go_ret
    exact ⟨by first | rfl | (simp [errW_none, errW_some] <;> rfl) | (simp [*, errW_none, errW_some] <;> rfl), by repeat (first | (with_reducible first | exact HB.out | apply below_alloc | apply pw_below_drewN | apply below_drew1) | exact HB.out)⟩
  · rw [if_neg c2] at H
    have c2b0 : decide (50 < (l0.length : Int)) = false := decide_eq_false c2
    have c2b1 : decide (50 < l0.length) = false := decide_eq_false (by omega)
    clear c2
    have H' := Aside0.mk H
    clear H
    go_enter Tryz.func32, Tryz.ntmps32
    go_wp2
    go_loopg [10] k (fun kq v10 w' => ∃ (x10_1 : Int), v10 = .int .i64 x10_1 ∧ Aside0 (message_CheckHeaders.l0 kq l0 (l0.length : Int) x10_1 = some r) ∧ Aside0 (kq ≤ k) ∧ Aside0 (Below w.heap.size w w'))
    case atStart => exact ⟨(0), (by first | rfl | (simp; done) | (simp [*]; done)), H', ⟨Nat.le_refl _⟩, ⟨by repeat (first | (with_reducible first | exact HB.out | apply below_alloc | apply pw_below_drewN | apply below_drew1) | exact HB.out)⟩⟩
    case round =>
      clear H'
      try clear c2
      try clear c2b0
      try clear c2b1
      try clear p2
      obtain ⟨x10_1, rfl, HA, HK1, HB⟩ := hrel
      cases gk with
      | zero => exact absurd HA.out (by simp [message_CheckHeaders.l0])
      | succ k1 =>
        have H := HA.out
        clear HA
        simp only [message_CheckHeaders.l0] at H
        by_cases c3 : x10_1 < (l0.length : Int)
        · rw [if_pos c3] at H
          have c3b0 : decide (x10_1 < (l0.length : Int)) = true := decide_eq_true c3
          clear c3
          by_cases c4 : 0 ≤ x10_1
          · rw [if_pos c4] at H
            have c4b0 : decide (0 ≤ x10_1) = true := decide_eq_true c4
            clear c4
            by_cases c5 : x10_1 < (l0.length : Int)
            · rw [if_pos c5] at H
              have c5b0 : decide (x10_1 < (l0.length : Int)) = true := decide_eq_true c5
              clear c5
              replace H := Option.bind_eq_some_iff.mp H
              obtain ⟨t252, A60, H⟩ := H
              replace H : (if t252 = true then ((message_IsField.f k1 ((rd_T49 l0 x10_1).f1)).bind fun t253 => (if t253 = true then (message_CheckHeaders.l0 k1 l0 (l0.length : Int) (wrap64 (x10_1 + 1))) else (some 3))) else (some 5)) = some r := H
              have A6 := Aside0.mk A60
              clear A60
              by_cases c7 : t252 = true
              · subst c7
                have H1 : ((message_IsField.f k1 ((rd_T49 l0 x10_1).f1)).bind fun t253 => (if t253 = true then (message_CheckHeaders.l0 k1 l0 (l0.length : Int) (wrap64 (x10_1 + 1))) else (some 3))) = some r := by rw [if_pos rfl] at H; exact H
                clear H
                have H := H1
                clear H1
                replace H := Option.bind_eq_some_iff.mp H
                obtain ⟨t253, A80, H⟩ := H
                replace H : (if t253 = true then (message_CheckHeaders.l0 k1 l0 (l0.length : Int) (wrap64 (x10_1 + 1))) else (some 3)) = some r := H
                have A8 := Aside0.mk A80
                clear A80
                by_cases c9 : t253 = true
                · subst c9
                  have H1 : (message_CheckHeaders.l0 k1 l0 (l0.length : Int) (wrap64 (x10_1 + 1))) = some r := by rw [if_pos rfl] at H; exact H
                  clear H
                  have H := H1
                  clear H1
                  have H' := Aside0.mk H
                  clear H
                  have p250 : 0 ≤ (x10_1 : Int) := of_decide_eq_true (by first | (with_reducible assumption) | assumption)
                  have q250 : x10_1 < (l0.length : Int) := of_decide_eq_true (by first | (with_reducible assumption) | assumption)
                  obtain ⟨ad250, e250, hx250_0, hx250_1⟩ := at_T49 HR0.out x10_1 p250 q250
                  cases e250
                  replace hx250_0 := (HB.out.cell (World.block_lt_of_cell? w _ hx250_0)).trans hx250_0
                  replace hx250_1 := (HB.out.cell (World.block_lt_of_cell? w _ hx250_1)).trans hx250_1
                  replace p250 := eq_true p250
                  replace q250 := eq_true q250
                  go_wp2_with (first | ((with_reducible refine gate_dst (N := 4) rfl ?_); refine box_event ?hg (N := 4) ?hd (cs := #[.string (⟨#[]⟩ : ByteArray), .string (⟨#[]⟩ : ByteArray)]) (t := 49) ?hr ?_; (case hd => rfl); (case hg => rfl); (case hr => first | (go_simp; done) | (go_simp; rfl)); intro gb251 hg w10 hbox hb; have n0_ := Aside0.mk (below_step (by repeat (first | (with_reducible first | exact HB.out | apply below_alloc | apply pw_below_drewN | apply below_drew1) | exact HB.out)) hb); have n1_ := Aside0.mk (hbox); have n2_ := Aside0.mk ((by rw [hg]; exact (below_size (by repeat (first | (with_reducible first | exact HB.out | apply below_alloc | apply pw_below_drewN | apply below_drew1) | exact HB.out))) : w.heap.size ≤ gb251)); have n3_ := Aside0.mk ((by rw [hg]; exact (below_size (by repeat (first | (with_reducible first | exact HB.out | apply below_alloc | apply pw_below_drewN | apply below_drew1) | exact HB.out))) : w.heap.size ≤ gb251)); clear HB; have HB := n0_; have BK251 := n1_; have GW251 := n2_; have GE251 := n3_; clear n0_ n1_ n2_ n3_; clear hb hbox hg; have hcz11_0 : w10.cell? ⟨gb251, 0, none⟩ = some (.string (⟨#[]⟩ : ByteArray)) := (blk_cell BK251.out 0).trans rfl; have hcz11_1 : w10.cell? ⟨gb251, 1, none⟩ = some (.string (⟨#[]⟩ : ByteArray)) := (blk_cell BK251.out 1).trans rfl; have hfz11_0 := blk_frozen BK251.out 0; have hfz11_1 := blk_frozen BK251.out 1) | ((with_reducible refine gate_callee (f := 51) rfl ?_); refine goesL_ (some 16) rfl rfl Tryz.func51 (by kernel_rfl) rfl #[.string ((rd_T49 l0 x10_1).f0)] rfl (by (try simp only [List.map_toArray, List.map_cons, List.map_nil]); first | done | rfl | (simp only [List.length_drop, List.length_take]; rfl)) ?_; (with_reducible refine (message_IsToken.calls k1 ((rd_T49 l0 x10_1).f0) true _ A6.out).mono ?_); rintro e w' ⟨rfl, ⟨nd, rfl⟩⟩; refine ⟨_, rfl, ?_⟩) | ((with_reducible refine gate_callee (f := 52) rfl ?_); refine goesL_ (some 20) rfl rfl Tryz.func52 (by kernel_rfl) rfl #[.string ((rd_T49 l0 x10_1).f1)] rfl (by (try simp only [List.map_toArray, List.map_cons, List.map_nil]); first | done | rfl | (simp only [List.length_drop, List.length_take]; rfl)) ?_; (with_reducible refine (message_IsField.calls k1 ((rd_T49 l0 x10_1).f1) true _ A8.out).mono ?_); rintro e w' ⟨rfl, ⟨nd, rfl⟩⟩; refine ⟨_, rfl, ?_⟩))
                  go_roundg k1
                  case measure => have := HK1.out; omega
                  case rel => exact ⟨(wrap64 (x10_1 + 1)), (by first | rfl | (simp; done) | (simp [*]; done)), H', ⟨by have := HK1.out; omega⟩, ⟨by repeat (first | (with_reducible first | exact HB.out | apply below_alloc | apply pw_below_drewN | apply below_drew1 | refine below_set ?_ GE251.out) | exact HB.out)⟩⟩
                · replace c9 := Bool.eq_false_iff.mpr c9
                  subst c9
                  have H1 : (some 3) = some r := by rw [if_neg (show ¬ (false = true) by decide)] at H; exact H
                  clear H
                  have H := H1
                  clear H1
                  obtain rfl := Option.some.inj H
                  have p250 : 0 ≤ (x10_1 : Int) := of_decide_eq_true (by first | (with_reducible assumption) | assumption)
                  have q250 : x10_1 < (l0.length : Int) := of_decide_eq_true (by first | (with_reducible assumption) | assumption)
                  obtain ⟨ad250, e250, hx250_0, hx250_1⟩ := at_T49 HR0.out x10_1 p250 q250
                  cases e250
                  replace hx250_0 := (HB.out.cell (World.block_lt_of_cell? w _ hx250_0)).trans hx250_0
                  replace hx250_1 := (HB.out.cell (World.block_lt_of_cell? w _ hx250_1)).trans hx250_1
                  replace p250 := eq_true p250
                  replace q250 := eq_true q250
                  go_wp2_with (first | ((with_reducible refine gate_dst (N := 4) rfl ?_); refine box_event ?hg (N := 4) ?hd (cs := #[.string (⟨#[]⟩ : ByteArray), .string (⟨#[]⟩ : ByteArray)]) (t := 49) ?hr ?_; (case hd => rfl); (case hg => rfl); (case hr => first | (go_simp; done) | (go_simp; rfl)); intro gb251 hg w12 hbox hb; have n0_ := Aside0.mk (below_step (by repeat (first | (with_reducible first | exact HB.out | apply below_alloc | apply pw_below_drewN | apply below_drew1) | exact HB.out)) hb); have n1_ := Aside0.mk (hbox); have n2_ := Aside0.mk ((by rw [hg]; exact (below_size (by repeat (first | (with_reducible first | exact HB.out | apply below_alloc | apply pw_below_drewN | apply below_drew1) | exact HB.out))) : w.heap.size ≤ gb251)); have n3_ := Aside0.mk ((by rw [hg]; exact (below_size (by repeat (first | (with_reducible first | exact HB.out | apply below_alloc | apply pw_below_drewN | apply below_drew1) | exact HB.out))) : w.heap.size ≤ gb251)); clear HB; have HB := n0_; have BK251 := n1_; have GW251 := n2_; have GE251 := n3_; clear n0_ n1_ n2_ n3_; clear hb hbox hg; have hcz13_0 : w12.cell? ⟨gb251, 0, none⟩ = some (.string (⟨#[]⟩ : ByteArray)) := (blk_cell BK251.out 0).trans rfl; have hcz13_1 : w12.cell? ⟨gb251, 1, none⟩ = some (.string (⟨#[]⟩ : ByteArray)) := (blk_cell BK251.out 1).trans rfl; have hfz13_0 := blk_frozen BK251.out 0; have hfz13_1 := blk_frozen BK251.out 1) | ((with_reducible refine gate_callee (f := 51) rfl ?_); refine goesL_ (some 16) rfl rfl Tryz.func51 (by kernel_rfl) rfl #[.string ((rd_T49 l0 x10_1).f0)] rfl (by (try simp only [List.map_toArray, List.map_cons, List.map_nil]); first | done | rfl | (simp only [List.length_drop, List.length_take]; rfl)) ?_; (with_reducible refine (message_IsToken.calls k1 ((rd_T49 l0 x10_1).f0) true _ A6.out).mono ?_); rintro e w' ⟨rfl, ⟨nd, rfl⟩⟩; refine ⟨_, rfl, ?_⟩) | ((with_reducible refine gate_callee (f := 52) rfl ?_); refine goesL_ (some 20) rfl rfl Tryz.func52 (by kernel_rfl) rfl #[.string ((rd_T49 l0 x10_1).f1)] rfl (by (try simp only [List.map_toArray, List.map_cons, List.map_nil]); first | done | rfl | (simp only [List.length_drop, List.length_take]; rfl)) ?_; (with_reducible refine (message_IsField.calls k1 ((rd_T49 l0 x10_1).f1) false _ A8.out).mono ?_); rintro e w' ⟨rfl, ⟨nd, rfl⟩⟩; refine ⟨_, rfl, ?_⟩))
                  go_ret
                  exact ⟨by first | rfl | (simp [errW_none, errW_some] <;> rfl) | (simp [*, errW_none, errW_some] <;> rfl), by repeat (first | (with_reducible first | exact HB.out | apply below_alloc | apply pw_below_drewN | apply below_drew1 | refine below_set ?_ GE251.out) | exact HB.out)⟩
              · replace c7 := Bool.eq_false_iff.mpr c7
                subst c7
                have H1 : (some 5) = some r := by rw [if_neg (show ¬ (false = true) by decide)] at H; exact H
                clear H
                have H := H1
                clear H1
                obtain rfl := Option.some.inj H
                have p250 : 0 ≤ (x10_1 : Int) := of_decide_eq_true (by first | (with_reducible assumption) | assumption)
                have q250 : x10_1 < (l0.length : Int) := of_decide_eq_true (by first | (with_reducible assumption) | assumption)
                obtain ⟨ad250, e250, hx250_0, hx250_1⟩ := at_T49 HR0.out x10_1 p250 q250
                cases e250
                replace hx250_0 := (HB.out.cell (World.block_lt_of_cell? w _ hx250_0)).trans hx250_0
                replace hx250_1 := (HB.out.cell (World.block_lt_of_cell? w _ hx250_1)).trans hx250_1
                replace p250 := eq_true p250
                replace q250 := eq_true q250
                go_wp2_with (first | ((with_reducible refine gate_dst (N := 4) rfl ?_); refine box_event ?hg (N := 4) ?hd (cs := #[.string (⟨#[]⟩ : ByteArray), .string (⟨#[]⟩ : ByteArray)]) (t := 49) ?hr ?_; (case hd => rfl); (case hg => rfl); (case hr => first | (go_simp; done) | (go_simp; rfl)); intro gb251 hg w14 hbox hb; have n0_ := Aside0.mk (below_step (by repeat (first | (with_reducible first | exact HB.out | apply below_alloc | apply pw_below_drewN | apply below_drew1) | exact HB.out)) hb); have n1_ := Aside0.mk (hbox); have n2_ := Aside0.mk ((by rw [hg]; exact (below_size (by repeat (first | (with_reducible first | exact HB.out | apply below_alloc | apply pw_below_drewN | apply below_drew1) | exact HB.out))) : w.heap.size ≤ gb251)); have n3_ := Aside0.mk ((by rw [hg]; exact (below_size (by repeat (first | (with_reducible first | exact HB.out | apply below_alloc | apply pw_below_drewN | apply below_drew1) | exact HB.out))) : w.heap.size ≤ gb251)); clear HB; have HB := n0_; have BK251 := n1_; have GW251 := n2_; have GE251 := n3_; clear n0_ n1_ n2_ n3_; clear hb hbox hg; have hcz15_0 : w14.cell? ⟨gb251, 0, none⟩ = some (.string (⟨#[]⟩ : ByteArray)) := (blk_cell BK251.out 0).trans rfl; have hcz15_1 : w14.cell? ⟨gb251, 1, none⟩ = some (.string (⟨#[]⟩ : ByteArray)) := (blk_cell BK251.out 1).trans rfl; have hfz15_0 := blk_frozen BK251.out 0; have hfz15_1 := blk_frozen BK251.out 1) | ((with_reducible refine gate_callee (f := 51) rfl ?_); refine goesL_ (some 16) rfl rfl Tryz.func51 (by kernel_rfl) rfl #[.string ((rd_T49 l0 x10_1).f0)] rfl (by (try simp only [List.map_toArray, List.map_cons, List.map_nil]); first | done | rfl | (simp only [List.length_drop, List.length_take]; rfl)) ?_; (with_reducible refine (message_IsToken.calls k1 ((rd_T49 l0 x10_1).f0) false _ A6.out).mono ?_); rintro e w' ⟨rfl, ⟨nd, rfl⟩⟩; refine ⟨_, rfl, ?_⟩))
                go_ret
                exact ⟨by first | rfl | (simp [errW_none, errW_some] <;> rfl) | (simp [*, errW_none, errW_some] <;> rfl), by repeat (first | (with_reducible first | exact HB.out | apply below_alloc | apply pw_below_drewN | apply below_drew1 | refine below_set ?_ GE251.out) | exact HB.out)⟩
            · rw [if_neg c5] at H
              exact absurd H (by simp)
          · rw [if_neg c4] at H
            exact absurd H (by simp)
        · rw [if_neg c3] at H
          have c3b0 : decide (x10_1 < (l0.length : Int)) = false := decide_eq_false c3
          clear c3
          obtain rfl := Option.some.inj H
          go_wp2
          go_ret
          exact ⟨by first | rfl | (simp [errW_none, errW_some] <;> rfl) | (simp [*, errW_none, errW_some] <;> rfl), by repeat (first | (with_reducible first | exact HB.out | apply below_alloc | apply pw_below_drewN | apply below_drew1) | exact HB.out)⟩

end Go.Proofs.YthgjnpmebjlecaaGreatDoor.P
/- The machine's side, printed by a program of this session: each Go function named below comes to the Lean function of its name; conditions: those of each theorem. -/
namespace Go.Proofs.YthgjnpmebjlecaaGreatDoor.P
open Go.RowKit Go.Proofs.YthgjnpmebjlecaaGreatDoorW.PrintWords Go.Proofs.YthgjnpmebjlecaaGreatDoorW.PrintLast Go.Proofs.YthgjnpmebjlecaaGreatDoorW.PrintMore
attribute [local go_sem] max2_int min2_int max_two min_two max_three min_three max_four min_four   -- for this text's walks alone
set_option linter.unusedVariables false
set_option linter.unusedSimpArgs false

/-! ### message_CheckResponse: function 38 -/
def message_CheckResponse.f (k : Nat) (a0_0 : Int) (l0_1 : List (S49)) (a0_2 : ByteArray) : Option (Int) := (kit_Outside.f a0_0 100 599).bind fun t255 => (if t255 = true then (some 1) else ((message_CheckHeaders.f k l0_1).bind fun t256 => (if t256 = 0 then (if (a0_2.size : Int) > 20000 then (some 2) else (some 0)) else (some t256))))
theorem message_CheckResponse.mono : ∀ a0 a1 a2 k, LeO (message_CheckResponse.f k a0 a1 a2) (message_CheckResponse.f (k + 1) a0 a1 a2) := by
  intro a0 a1 a2 k
  unfold message_CheckResponse.f
  repeat' first
      | (with_reducible exact message_CheckHeaders.mono _ _)
      | (with_reducible exact LeO.refl _)
      | (with_reducible exact LeO.none _)
      | (with_reducible refine LeO.ite ?_ ?_)
      | (with_reducible refine LeO.bind ?_ (fun _ => ?_))
      | exact message_CheckHeaders.mono _ _
      | exact LeO.none _
      | refine LeO.ite ?_ ?_
      | refine LeO.bind ?_ (fun _ => ?_)
set_option maxHeartbeats 8000000 in
set_option maxRecDepth 100000 in
theorem message_CheckResponse.calls (k : Nat) (a0_0 : Int) (A0_1 : Option Addr) (c0_1 : Nat) (l0_1 : List (S49)) (a0_2 : ByteArray) (r : Int) (w : World) (hr0_1 : Kd.C k49 w A0_1 l0_1.length l0_1) (hc0_1 : l0_1.length ≤ c0_1) (h : message_CheckResponse.f k a0_0 l0_1 a0_2 = some r) :
    Calls Tryz.prog 38 #[.agg #[.int .i64 a0_0, .slice A0_1 l0_1.length c0_1, .string a0_2]] w fun e w' => e = .returned (.int .i64 r) ∧ Below w.heap.size w w' := by
  have hu58 := Tryz.underlying58
  have HR0_1 := Aside0.mk hr0_1
  have HC0_1 := Aside0.mk hc0_1
  clear hr0_1 hc0_1
  have HB := Aside0.mk (Below.refl w.heap.size w)
  have H : ((kit_Outside.f a0_0 100 599).bind fun t255 => (if t255 = true then (some 1) else ((message_CheckHeaders.f k l0_1).bind fun t256 => (if t256 = 0 then (if (a0_2.size : Int) > 20000 then (some 2) else (some 0)) else (some t256))))) = some r := h
  clear h
  replace H := Option.bind_eq_some_iff.mp H
  obtain ⟨t255, A20, H⟩ := H
  replace H : (if t255 = true then (some 1) else ((message_CheckHeaders.f k l0_1).bind fun t256 => (if t256 = 0 then (if (a0_2.size : Int) > 20000 then (some 2) else (some 0)) else (some t256)))) = some r := H
  have A2 := Aside0.mk A20
  clear A20
  by_cases c3 : t255 = true
  · subst c3
    have H1 : (some 1) = some r := by rw [if_pos rfl] at H; exact H
    clear H
    have H := H1
    clear H1
    obtain rfl := Option.some.inj H
    go_enter Tryz.func38, Tryz.ntmps38
    go_wp2_with (first | ((with_reducible refine gate_dst (N := 1) rfl ?_); refine box_event ?hg (N := 1) ?hd (cs := #[.int .i64 a0_0, .slice A0_1 l0_1.length c0_1, .string a0_2]) (t := 58) ?hr ?_; (case hd => rfl); (case hg => rfl); (case hr => first | (go_simp; done) | (go_simp; rfl)); intro gb254 hg w4 hbox hb; have n0_ := Aside0.mk (below_step (by repeat (first | (with_reducible first | exact HB.out | apply below_alloc | apply pw_below_drewN | apply below_drew1) | exact HB.out)) hb); have n1_ := Aside0.mk (hbox); have n2_ := Aside0.mk ((by rw [hg]; exact (below_size (by repeat (first | (with_reducible first | exact HB.out | apply below_alloc | apply pw_below_drewN | apply below_drew1) | exact HB.out))) : w.heap.size ≤ gb254)); have n3_ := Aside0.mk ((by rw [hg]; exact (below_size (by repeat (first | (with_reducible first | exact HB.out | apply below_alloc | apply pw_below_drewN | apply below_drew1) | exact HB.out))) : w.heap.size ≤ gb254)); clear HB; have HB := n0_; have BK254 := n1_; have GW254 := n2_; have GE254 := n3_; clear n0_ n1_ n2_ n3_; clear hb hbox hg; have hcz5_0 : w4.cell? ⟨gb254, 0, none⟩ = some (.int .i64 a0_0) := (blk_cell BK254.out 0).trans rfl; have hcz5_1 : w4.cell? ⟨gb254, 1, none⟩ = some (.slice A0_1 l0_1.length c0_1) := (blk_cell BK254.out 1).trans rfl; have hcz5_2 : w4.cell? ⟨gb254, 2, none⟩ = some (.string a0_2) := (blk_cell BK254.out 2).trans rfl; have hfz5_0 := blk_frozen BK254.out 0; have hfz5_1 := blk_frozen BK254.out 1; have hfz5_2 := blk_frozen BK254.out 2) | ((with_reducible refine gate_callee (f := 18) rfl ?_); refine goesL_ (some 6) rfl rfl Tryz.func18 (by kernel_rfl) rfl #[.int .i64 a0_0, .int .i64 100, .int .i64 599] rfl (by (try simp only [List.map_toArray, List.map_cons, List.map_nil]); first | done | rfl | (simp only [List.length_drop, List.length_take]; rfl)) ?_; (with_reducible refine (kit_Outside.calls a0_0 100 599 true _ A2.out).mono ?_); rintro e w' ⟨rfl, ⟨nd, rfl⟩⟩; refine ⟨_, rfl, ?_⟩))
    go_ret
    exact ⟨by first | rfl | (simp [errW_none, errW_some] <;> rfl) | (simp [*, errW_none, errW_some] <;> rfl), by repeat (first | (with_reducible first | exact HB.out | apply below_alloc | apply pw_below_drewN | apply below_drew1 | refine below_set ?_ GE254.out) | exact HB.out)⟩
  · replace c3 := Bool.eq_false_iff.mpr c3
    subst c3
    have H1 : ((message_CheckHeaders.f k l0_1).bind fun t256 => (if t256 = 0 then (if (a0_2.size : Int) > 20000 then (some 2) else (some 0)) else (some t256))) = some r := by rw [if_neg (show ¬ (false = true) by decide)] at H; exact H
    clear H
    have H := H1
    clear H1
    replace H := Option.bind_eq_some_iff.mp H
    obtain ⟨t256, A60, H⟩ := H
    replace H : (if t256 = 0 then (if (a0_2.size : Int) > 20000 then (some 2) else (some 0)) else (some t256)) = some r := H
    have A6 := Aside0.mk A60
    clear A60
    by_cases c7 : t256 = 0
    · rw [if_pos c7] at H
      have c7b0 : (t256 == 0) = true := beq_iff_eq.mpr c7
      have c7b1 : (t256 != 0) = false := bne_eq_false_iff_eq.mpr c7
      clear c7
      by_cases c8 : (a0_2.size : Int) > 20000
      · rw [if_pos c8] at H
        have c8b0 : decide (20000 < (a0_2.size : Int)) = true := decide_eq_true c8
        have c8b1 : decide (20000 < a0_2.size) = true := decide_eq_true (by omega)
        clear c8
        obtain rfl := Option.some.inj H
        go_enter Tryz.func38, Tryz.ntmps38
        go_wp2_with (first | ((with_reducible refine gate_dst (N := 1) rfl ?_); refine box_event ?hg (N := 1) ?hd (cs := #[.int .i64 a0_0, .slice A0_1 l0_1.length c0_1, .string a0_2]) (t := 58) ?hr ?_; (case hd => rfl); (case hg => rfl); (case hr => first | (go_simp; done) | (go_simp; rfl)); intro gb254 hg w9 hbox hb; have n0_ := Aside0.mk (below_step (by repeat (first | (with_reducible first | exact HB.out | apply below_alloc | apply pw_below_drewN | apply below_drew1) | exact HB.out)) hb); have n1_ := Aside0.mk (hbox); have n2_ := Aside0.mk ((by rw [hg]; exact (below_size (by repeat (first | (with_reducible first | exact HB.out | apply below_alloc | apply pw_below_drewN | apply below_drew1) | exact HB.out))) : w.heap.size ≤ gb254)); have n3_ := Aside0.mk ((by rw [hg]; exact (below_size (by repeat (first | (with_reducible first | exact HB.out | apply below_alloc | apply pw_below_drewN | apply below_drew1) | exact HB.out))) : w.heap.size ≤ gb254)); clear HB; have HB := n0_; have BK254 := n1_; have GW254 := n2_; have GE254 := n3_; clear n0_ n1_ n2_ n3_; clear hb hbox hg; have hcz10_0 : w9.cell? ⟨gb254, 0, none⟩ = some (.int .i64 a0_0) := (blk_cell BK254.out 0).trans rfl; have hcz10_1 : w9.cell? ⟨gb254, 1, none⟩ = some (.slice A0_1 l0_1.length c0_1) := (blk_cell BK254.out 1).trans rfl; have hcz10_2 : w9.cell? ⟨gb254, 2, none⟩ = some (.string a0_2) := (blk_cell BK254.out 2).trans rfl; have hfz10_0 := blk_frozen BK254.out 0; have hfz10_1 := blk_frozen BK254.out 1; have hfz10_2 := blk_frozen BK254.out 2) | ((with_reducible refine gate_callee (f := 18) rfl ?_); refine goesL_ (some 6) rfl rfl Tryz.func18 (by kernel_rfl) rfl #[.int .i64 a0_0, .int .i64 100, .int .i64 599] rfl (by (try simp only [List.map_toArray, List.map_cons, List.map_nil]); first | done | rfl | (simp only [List.length_drop, List.length_take]; rfl)) ?_; (with_reducible refine (kit_Outside.calls a0_0 100 599 false _ A2.out).mono ?_); rintro e w' ⟨rfl, ⟨nd, rfl⟩⟩; refine ⟨_, rfl, ?_⟩) | ((with_reducible refine gate_callee (f := 32) rfl ?_); refine goesL_ (some 9) rfl rfl Tryz.func32 (by kernel_rfl) rfl #[.slice A0_1 l0_1.length c0_1] rfl (by (try simp only [List.map_toArray, List.map_cons, List.map_nil]); first | done | rfl | (simp only [List.length_drop, List.length_take]; rfl)) ?_; (with_reducible refine (message_CheckHeaders.calls k _ _ l0_1 t256 _ ?side1 ?side2 A6.out).mono ?_); (case side1 => repeat (first | exact (Kd.C_below HR0_1.out (by repeat (first | (with_reducible first | exact HB.out | apply below_alloc | apply pw_below_drewN | apply below_drew1 | refine below_set ?_ GE254.out) | exact HB.out))) | (with_reducible refine Kd.C_alloc ?_ _) | (with_reducible refine Kd.C_drewN ?_ _) | (with_reducible refine Kd.C_drew ?_))); (case side2 => exact HC0_1.out); rintro e w11 ⟨rfl, hb⟩; refine ⟨_, rfl, ?_⟩; have n0_ := Aside0.mk (blk_below (g := gb254) (o := .cells #[.int .i64 a0_0, .slice A0_1 l0_1.length c0_1, .string a0_2] 58 (0, 0)) (by (with_reducible repeat (first | refine blk_drewN ?_ _ | refine blk_drew ?_ | refine blk_alloc ?_ _)); exact BK254.out) hb); have n1_ := Aside0.mk (below_step (by repeat (first | (with_reducible first | exact HB.out | apply below_alloc | apply pw_below_drewN | apply below_drew1 | refine below_set ?_ GE254.out) | exact HB.out)) hb); clear BK254; clear HB; have BK254 := n0_; have HB := n1_; clear n0_ n1_; (try clear hb); (try clear hb2); (try clear hk); (try clear hi); have hcz12_0 : w11.cell? ⟨gb254, 0, none⟩ = some (.int .i64 a0_0) := (blk_cell BK254.out 0).trans rfl; have hcz12_1 : w11.cell? ⟨gb254, 1, none⟩ = some (.slice A0_1 l0_1.length c0_1) := (blk_cell BK254.out 1).trans rfl; have hcz12_2 : w11.cell? ⟨gb254, 2, none⟩ = some (.string a0_2) := (blk_cell BK254.out 2).trans rfl; have hfz12_0 := blk_frozen BK254.out 0; have hfz12_1 := blk_frozen BK254.out 1; have hfz12_2 := blk_frozen BK254.out 2))
        go_ret
        exact ⟨by first | rfl | (simp [errW_none, errW_some] <;> rfl) | (simp [*, errW_none, errW_some] <;> rfl), by repeat (first | (with_reducible first | exact HB.out | apply below_alloc | apply pw_below_drewN | apply below_drew1 | refine below_set ?_ GE254.out) | exact HB.out)⟩
      · rw [if_neg c8] at H
        have c8b0 : decide (20000 < (a0_2.size : Int)) = false := decide_eq_false c8
        have c8b1 : decide (20000 < a0_2.size) = false := decide_eq_false (by omega)
        clear c8
        obtain rfl := Option.some.inj H
        go_enter Tryz.func38, Tryz.ntmps38
        go_wp2_with (first | ((with_reducible refine gate_dst (N := 1) rfl ?_); refine box_event ?hg (N := 1) ?hd (cs := #[.int .i64 a0_0, .slice A0_1 l0_1.length c0_1, .string a0_2]) (t := 58) ?hr ?_; (case hd => rfl); (case hg => rfl); (case hr => first | (go_simp; done) | (go_simp; rfl)); intro gb254 hg w13 hbox hb; have n0_ := Aside0.mk (below_step (by repeat (first | (with_reducible first | exact HB.out | apply below_alloc | apply pw_below_drewN | apply below_drew1) | exact HB.out)) hb); have n1_ := Aside0.mk (hbox); have n2_ := Aside0.mk ((by rw [hg]; exact (below_size (by repeat (first | (with_reducible first | exact HB.out | apply below_alloc | apply pw_below_drewN | apply below_drew1) | exact HB.out))) : w.heap.size ≤ gb254)); have n3_ := Aside0.mk ((by rw [hg]; exact (below_size (by repeat (first | (with_reducible first | exact HB.out | apply below_alloc | apply pw_below_drewN | apply below_drew1) | exact HB.out))) : w.heap.size ≤ gb254)); clear HB; have HB := n0_; have BK254 := n1_; have GW254 := n2_; have GE254 := n3_; clear n0_ n1_ n2_ n3_; clear hb hbox hg; have hcz14_0 : w13.cell? ⟨gb254, 0, none⟩ = some (.int .i64 a0_0) := (blk_cell BK254.out 0).trans rfl; have hcz14_1 : w13.cell? ⟨gb254, 1, none⟩ = some (.slice A0_1 l0_1.length c0_1) := (blk_cell BK254.out 1).trans rfl; have hcz14_2 : w13.cell? ⟨gb254, 2, none⟩ = some (.string a0_2) := (blk_cell BK254.out 2).trans rfl; have hfz14_0 := blk_frozen BK254.out 0; have hfz14_1 := blk_frozen BK254.out 1; have hfz14_2 := blk_frozen BK254.out 2) | ((with_reducible refine gate_callee (f := 18) rfl ?_); refine goesL_ (some 6) rfl rfl Tryz.func18 (by kernel_rfl) rfl #[.int .i64 a0_0, .int .i64 100, .int .i64 599] rfl (by (try simp only [List.map_toArray, List.map_cons, List.map_nil]); first | done | rfl | (simp only [List.length_drop, List.length_take]; rfl)) ?_; (with_reducible refine (kit_Outside.calls a0_0 100 599 false _ A2.out).mono ?_); rintro e w' ⟨rfl, ⟨nd, rfl⟩⟩; refine ⟨_, rfl, ?_⟩) | ((with_reducible refine gate_callee (f := 32) rfl ?_); refine goesL_ (some 9) rfl rfl Tryz.func32 (by kernel_rfl) rfl #[.slice A0_1 l0_1.length c0_1] rfl (by (try simp only [List.map_toArray, List.map_cons, List.map_nil]); first | done | rfl | (simp only [List.length_drop, List.length_take]; rfl)) ?_; (with_reducible refine (message_CheckHeaders.calls k _ _ l0_1 t256 _ ?side1 ?side2 A6.out).mono ?_); (case side1 => repeat (first | exact (Kd.C_below HR0_1.out (by repeat (first | (with_reducible first | exact HB.out | apply below_alloc | apply pw_below_drewN | apply below_drew1 | refine below_set ?_ GE254.out) | exact HB.out))) | (with_reducible refine Kd.C_alloc ?_ _) | (with_reducible refine Kd.C_drewN ?_ _) | (with_reducible refine Kd.C_drew ?_))); (case side2 => exact HC0_1.out); rintro e w15 ⟨rfl, hb⟩; refine ⟨_, rfl, ?_⟩; have n0_ := Aside0.mk (blk_below (g := gb254) (o := .cells #[.int .i64 a0_0, .slice A0_1 l0_1.length c0_1, .string a0_2] 58 (0, 0)) (by (with_reducible repeat (first | refine blk_drewN ?_ _ | refine blk_drew ?_ | refine blk_alloc ?_ _)); exact BK254.out) hb); have n1_ := Aside0.mk (below_step (by repeat (first | (with_reducible first | exact HB.out | apply below_alloc | apply pw_below_drewN | apply below_drew1 | refine below_set ?_ GE254.out) | exact HB.out)) hb); clear BK254; clear HB; have BK254 := n0_; have HB := n1_; clear n0_ n1_; (try clear hb); (try clear hb2); (try clear hk); (try clear hi); have hcz16_0 : w15.cell? ⟨gb254, 0, none⟩ = some (.int .i64 a0_0) := (blk_cell BK254.out 0).trans rfl; have hcz16_1 : w15.cell? ⟨gb254, 1, none⟩ = some (.slice A0_1 l0_1.length c0_1) := (blk_cell BK254.out 1).trans rfl; have hcz16_2 : w15.cell? ⟨gb254, 2, none⟩ = some (.string a0_2) := (blk_cell BK254.out 2).trans rfl; have hfz16_0 := blk_frozen BK254.out 0; have hfz16_1 := blk_frozen BK254.out 1; have hfz16_2 := blk_frozen BK254.out 2))
        go_ret
        exact ⟨by first | rfl | (simp [errW_none, errW_some] <;> rfl) | (simp [*, errW_none, errW_some] <;> rfl), by repeat (first | (with_reducible first | exact HB.out | apply below_alloc | apply pw_below_drewN | apply below_drew1 | refine below_set ?_ GE254.out) | exact HB.out)⟩
    · rw [if_neg c7] at H
      have c7b0 : (t256 == 0) = false := beq_eq_false_iff_ne.mpr c7
      have c7b1 : (t256 != 0) = true := bne_iff_ne.mpr c7
      obtain rfl := Option.some.inj H
      go_enter Tryz.func38, Tryz.ntmps38
      go_wp2_with (first | ((with_reducible refine gate_dst (N := 1) rfl ?_); refine box_event ?hg (N := 1) ?hd (cs := #[.int .i64 a0_0, .slice A0_1 l0_1.length c0_1, .string a0_2]) (t := 58) ?hr ?_; (case hd => rfl); (case hg => rfl); (case hr => first | (go_simp; done) | (go_simp; rfl)); intro gb254 hg w17 hbox hb; have n0_ := Aside0.mk (below_step (by repeat (first | (with_reducible first | exact HB.out | apply below_alloc | apply pw_below_drewN | apply below_drew1) | exact HB.out)) hb); have n1_ := Aside0.mk (hbox); have n2_ := Aside0.mk ((by rw [hg]; exact (below_size (by repeat (first | (with_reducible first | exact HB.out | apply below_alloc | apply pw_below_drewN | apply below_drew1) | exact HB.out))) : w.heap.size ≤ gb254)); have n3_ := Aside0.mk ((by rw [hg]; exact (below_size (by repeat (first | (with_reducible first | exact HB.out | apply below_alloc | apply pw_below_drewN | apply below_drew1) | exact HB.out))) : w.heap.size ≤ gb254)); clear HB; have HB := n0_; have BK254 := n1_; have GW254 := n2_; have GE254 := n3_; clear n0_ n1_ n2_ n3_; clear hb hbox hg; have hcz18_0 : w17.cell? ⟨gb254, 0, none⟩ = some (.int .i64 a0_0) := (blk_cell BK254.out 0).trans rfl; have hcz18_1 : w17.cell? ⟨gb254, 1, none⟩ = some (.slice A0_1 l0_1.length c0_1) := (blk_cell BK254.out 1).trans rfl; have hcz18_2 : w17.cell? ⟨gb254, 2, none⟩ = some (.string a0_2) := (blk_cell BK254.out 2).trans rfl; have hfz18_0 := blk_frozen BK254.out 0; have hfz18_1 := blk_frozen BK254.out 1; have hfz18_2 := blk_frozen BK254.out 2) | ((with_reducible refine gate_callee (f := 18) rfl ?_); refine goesL_ (some 6) rfl rfl Tryz.func18 (by kernel_rfl) rfl #[.int .i64 a0_0, .int .i64 100, .int .i64 599] rfl (by (try simp only [List.map_toArray, List.map_cons, List.map_nil]); first | done | rfl | (simp only [List.length_drop, List.length_take]; rfl)) ?_; (with_reducible refine (kit_Outside.calls a0_0 100 599 false _ A2.out).mono ?_); rintro e w' ⟨rfl, ⟨nd, rfl⟩⟩; refine ⟨_, rfl, ?_⟩) | ((with_reducible refine gate_callee (f := 32) rfl ?_); refine goesL_ (some 9) rfl rfl Tryz.func32 (by kernel_rfl) rfl #[.slice A0_1 l0_1.length c0_1] rfl (by (try simp only [List.map_toArray, List.map_cons, List.map_nil]); first | done | rfl | (simp only [List.length_drop, List.length_take]; rfl)) ?_; (with_reducible refine (message_CheckHeaders.calls k _ _ l0_1 t256 _ ?side1 ?side2 A6.out).mono ?_); (case side1 => repeat (first | exact (Kd.C_below HR0_1.out (by repeat (first | (with_reducible first | exact HB.out | apply below_alloc | apply pw_below_drewN | apply below_drew1 | refine below_set ?_ GE254.out) | exact HB.out))) | (with_reducible refine Kd.C_alloc ?_ _) | (with_reducible refine Kd.C_drewN ?_ _) | (with_reducible refine Kd.C_drew ?_))); (case side2 => exact HC0_1.out); rintro e w19 ⟨rfl, hb⟩; refine ⟨_, rfl, ?_⟩; have n0_ := Aside0.mk (blk_below (g := gb254) (o := .cells #[.int .i64 a0_0, .slice A0_1 l0_1.length c0_1, .string a0_2] 58 (0, 0)) (by (with_reducible repeat (first | refine blk_drewN ?_ _ | refine blk_drew ?_ | refine blk_alloc ?_ _)); exact BK254.out) hb); have n1_ := Aside0.mk (below_step (by repeat (first | (with_reducible first | exact HB.out | apply below_alloc | apply pw_below_drewN | apply below_drew1 | refine below_set ?_ GE254.out) | exact HB.out)) hb); clear BK254; clear HB; have BK254 := n0_; have HB := n1_; clear n0_ n1_; (try clear hb); (try clear hb2); (try clear hk); (try clear hi)))
      go_ret
      exact ⟨by first | rfl | (simp [errW_none, errW_some] <;> rfl) | (simp [*, errW_none, errW_some] <;> rfl), by repeat (first | (with_reducible first | exact HB.out | apply below_alloc | apply pw_below_drewN | apply below_drew1 | refine below_set ?_ GE254.out) | exact HB.out)⟩

end Go.Proofs.YthgjnpmebjlecaaGreatDoor.P
/- The machine's side, printed by a program of this session: each Go function named below comes to the Lean function of its name; conditions: those of each theorem. -/
namespace Go.Proofs.YthgjnpmebjlecaaGreatDoor.P
open Go.RowKit Go.Proofs.YthgjnpmebjlecaaGreatDoorW.PrintWords Go.Proofs.YthgjnpmebjlecaaGreatDoorW.PrintLast Go.Proofs.YthgjnpmebjlecaaGreatDoorW.PrintMore
attribute [local go_sem] max2_int min2_int max_two min_two max_three min_three max_four min_four   -- for this text's walks alone
set_option linter.unusedVariables false
set_option linter.unusedSimpArgs false

/-! ### cache_lifetime: function 40 -/
def cache_lifetime.f (a0_0 : Bool) (a0_1 : Bool) (a0_2 : Bool) (a0_3 : Bool) (a0_4 : Bool) (a0_5 : Bool) (a0_6 : Int) (a0_7 : Int) (a0_8 : Int) (a0_9 : Int) (a0_10 : Int) (a0_11 : Int) : Option (Int) := if a0_1 = true then (some 0) else (if a0_7 = (-1) then (if a0_6 = (-1) then (some 0) else (some (wrap64 (a0_6 * 1000)))) else (some (wrap64 (a0_7 * 1000))))
set_option maxHeartbeats 8000000 in
set_option maxRecDepth 100000 in
theorem cache_lifetime.calls (a0_0 : Bool) (a0_1 : Bool) (a0_2 : Bool) (a0_3 : Bool) (a0_4 : Bool) (a0_5 : Bool) (a0_6 : Int) (a0_7 : Int) (a0_8 : Int) (a0_9 : Int) (a0_10 : Int) (a0_11 : Int) (r : Int) (w : World) (h : cache_lifetime.f a0_0 a0_1 a0_2 a0_3 a0_4 a0_5 a0_6 a0_7 a0_8 a0_9 a0_10 a0_11 = some r) :
    Calls Tryz.prog 40 #[.agg #[.bool a0_0, .bool a0_1, .bool a0_2, .bool a0_3, .bool a0_4, .bool a0_5, .int .i64 a0_6, .int .i64 a0_7, .int .i64 a0_8, .int .i64 a0_9, .int .i64 a0_10, .int .i64 a0_11]] w fun e w' => e = .returned (.int .i64 r) ∧ Below w.heap.size w w' := by
  have hu43 := Tryz.underlying43
  have HB := Aside0.mk (Below.refl w.heap.size w)
  have H : (if a0_1 = true then (some 0) else (if a0_7 = (-1) then (if a0_6 = (-1) then (some 0) else (some (wrap64 (a0_6 * 1000)))) else (some (wrap64 (a0_7 * 1000))))) = some r := h
  clear h
  by_cases c2 : a0_1 = true
  · subst c2
    have H1 : (some 0) = some r := by rw [if_pos rfl] at H; exact H
    clear H
    have H := H1
    clear H1
    obtain rfl := Option.some.inj H
    go_enter Tryz.func40, Tryz.ntmps40
    go_wp2_with (first | ((with_reducible refine gate_dst (N := 1) rfl ?_); refine box_event ?hg (N := 1) ?hd (cs := #[.bool a0_0, .bool true, .bool a0_2, .bool a0_3, .bool a0_4, .bool a0_5, .int .i64 a0_6, .int .i64 a0_7, .int .i64 a0_8, .int .i64 a0_9, .int .i64 a0_10, .int .i64 a0_11]) (t := 43) ?hr ?_; (case hd => rfl); (case hg => rfl); (case hr => first | (go_simp; done) | (go_simp; rfl)); intro gb285 hg w3 hbox hb; have n0_ := Aside0.mk (below_step (by repeat (first | (with_reducible first | exact HB.out | apply below_alloc | apply pw_below_drewN | apply below_drew1) | exact HB.out)) hb); have n1_ := Aside0.mk (hbox); have n2_ := Aside0.mk ((by rw [hg]; exact (below_size (by repeat (first | (with_reducible first | exact HB.out | apply below_alloc | apply pw_below_drewN | apply below_drew1) | exact HB.out))) : w.heap.size ≤ gb285)); have n3_ := Aside0.mk ((by rw [hg]; exact (below_size (by repeat (first | (with_reducible first | exact HB.out | apply below_alloc | apply pw_below_drewN | apply below_drew1) | exact HB.out))) : w.heap.size ≤ gb285)); clear HB; have HB := n0_; have BK285 := n1_; have GW285 := n2_; have GE285 := n3_; clear n0_ n1_ n2_ n3_; clear hb hbox hg; have hcz4_0 : w3.cell? ⟨gb285, 0, none⟩ = some (.bool a0_0) := (blk_cell BK285.out 0).trans rfl; have hcz4_1 : w3.cell? ⟨gb285, 1, none⟩ = some (.bool true) := (blk_cell BK285.out 1).trans rfl; have hcz4_2 : w3.cell? ⟨gb285, 2, none⟩ = some (.bool a0_2) := (blk_cell BK285.out 2).trans rfl; have hcz4_3 : w3.cell? ⟨gb285, 3, none⟩ = some (.bool a0_3) := (blk_cell BK285.out 3).trans rfl; have hcz4_4 : w3.cell? ⟨gb285, 4, none⟩ = some (.bool a0_4) := (blk_cell BK285.out 4).trans rfl; have hcz4_5 : w3.cell? ⟨gb285, 5, none⟩ = some (.bool a0_5) := (blk_cell BK285.out 5).trans rfl; have hcz4_6 : w3.cell? ⟨gb285, 6, none⟩ = some (.int .i64 a0_6) := (blk_cell BK285.out 6).trans rfl; have hcz4_7 : w3.cell? ⟨gb285, 7, none⟩ = some (.int .i64 a0_7) := (blk_cell BK285.out 7).trans rfl; have hcz4_8 : w3.cell? ⟨gb285, 8, none⟩ = some (.int .i64 a0_8) := (blk_cell BK285.out 8).trans rfl; have hcz4_9 : w3.cell? ⟨gb285, 9, none⟩ = some (.int .i64 a0_9) := (blk_cell BK285.out 9).trans rfl; have hcz4_10 : w3.cell? ⟨gb285, 10, none⟩ = some (.int .i64 a0_10) := (blk_cell BK285.out 10).trans rfl; have hcz4_11 : w3.cell? ⟨gb285, 11, none⟩ = some (.int .i64 a0_11) := (blk_cell BK285.out 11).trans rfl; have hfz4_0 := blk_frozen BK285.out 0; have hfz4_1 := blk_frozen BK285.out 1; have hfz4_2 := blk_frozen BK285.out 2; have hfz4_3 := blk_frozen BK285.out 3; have hfz4_4 := blk_frozen BK285.out 4; have hfz4_5 := blk_frozen BK285.out 5; have hfz4_6 := blk_frozen BK285.out 6; have hfz4_7 := blk_frozen BK285.out 7; have hfz4_8 := blk_frozen BK285.out 8; have hfz4_9 := blk_frozen BK285.out 9; have hfz4_10 := blk_frozen BK285.out 10; have hfz4_11 := blk_frozen BK285.out 11))
    go_ret
    exact ⟨by first | rfl | (simp [errW_none, errW_some] <;> rfl) | (simp [*, errW_none, errW_some] <;> rfl), by repeat (first | (with_reducible first | exact HB.out | apply below_alloc | apply pw_below_drewN | apply below_drew1 | refine below_set ?_ GE285.out) | exact HB.out)⟩
  · replace c2 := Bool.eq_false_iff.mpr c2
    subst c2
    have H1 : (if a0_7 = (-1) then (if a0_6 = (-1) then (some 0) else (some (wrap64 (a0_6 * 1000)))) else (some (wrap64 (a0_7 * 1000)))) = some r := by rw [if_neg (show ¬ (false = true) by decide)] at H; exact H
    clear H
    have H := H1
    clear H1
    by_cases c5 : a0_7 = (-1)
    · rw [if_pos c5] at H
      have c5b0 : (a0_7 == (-1)) = true := beq_iff_eq.mpr c5
      have c5b1 : (a0_7 != (-1)) = false := bne_eq_false_iff_eq.mpr c5
      clear c5
      by_cases c6 : a0_6 = (-1)
      · rw [if_pos c6] at H
        have c6b0 : (a0_6 == (-1)) = true := beq_iff_eq.mpr c6
        have c6b1 : (a0_6 != (-1)) = false := bne_eq_false_iff_eq.mpr c6
        clear c6
        obtain rfl := Option.some.inj H
        go_enter Tryz.func40, Tryz.ntmps40
        go_wp2_with (first | ((with_reducible refine gate_dst (N := 1) rfl ?_); refine box_event ?hg (N := 1) ?hd (cs := #[.bool a0_0, .bool false, .bool a0_2, .bool a0_3, .bool a0_4, .bool a0_5, .int .i64 a0_6, .int .i64 a0_7, .int .i64 a0_8, .int .i64 a0_9, .int .i64 a0_10, .int .i64 a0_11]) (t := 43) ?hr ?_; (case hd => rfl); (case hg => rfl); (case hr => first | (go_simp; done) | (go_simp; rfl)); intro gb285 hg w7 hbox hb; have n0_ := Aside0.mk (below_step (by repeat (first | (with_reducible first | exact HB.out | apply below_alloc | apply pw_below_drewN | apply below_drew1) | exact HB.out)) hb); have n1_ := Aside0.mk (hbox); have n2_ := Aside0.mk ((by rw [hg]; exact (below_size (by repeat (first | (with_reducible first | exact HB.out | apply below_alloc | apply pw_below_drewN | apply below_drew1) | exact HB.out))) : w.heap.size ≤ gb285)); have n3_ := Aside0.mk ((by rw [hg]; exact (below_size (by repeat (first | (with_reducible first | exact HB.out | apply below_alloc | apply pw_below_drewN | apply below_drew1) | exact HB.out))) : w.heap.size ≤ gb285)); clear HB; have HB := n0_; have BK285 := n1_; have GW285 := n2_; have GE285 := n3_; clear n0_ n1_ n2_ n3_; clear hb hbox hg; have hcz8_0 : w7.cell? ⟨gb285, 0, none⟩ = some (.bool a0_0) := (blk_cell BK285.out 0).trans rfl; have hcz8_1 : w7.cell? ⟨gb285, 1, none⟩ = some (.bool false) := (blk_cell BK285.out 1).trans rfl; have hcz8_2 : w7.cell? ⟨gb285, 2, none⟩ = some (.bool a0_2) := (blk_cell BK285.out 2).trans rfl; have hcz8_3 : w7.cell? ⟨gb285, 3, none⟩ = some (.bool a0_3) := (blk_cell BK285.out 3).trans rfl; have hcz8_4 : w7.cell? ⟨gb285, 4, none⟩ = some (.bool a0_4) := (blk_cell BK285.out 4).trans rfl; have hcz8_5 : w7.cell? ⟨gb285, 5, none⟩ = some (.bool a0_5) := (blk_cell BK285.out 5).trans rfl; have hcz8_6 : w7.cell? ⟨gb285, 6, none⟩ = some (.int .i64 a0_6) := (blk_cell BK285.out 6).trans rfl; have hcz8_7 : w7.cell? ⟨gb285, 7, none⟩ = some (.int .i64 a0_7) := (blk_cell BK285.out 7).trans rfl; have hcz8_8 : w7.cell? ⟨gb285, 8, none⟩ = some (.int .i64 a0_8) := (blk_cell BK285.out 8).trans rfl; have hcz8_9 : w7.cell? ⟨gb285, 9, none⟩ = some (.int .i64 a0_9) := (blk_cell BK285.out 9).trans rfl; have hcz8_10 : w7.cell? ⟨gb285, 10, none⟩ = some (.int .i64 a0_10) := (blk_cell BK285.out 10).trans rfl; have hcz8_11 : w7.cell? ⟨gb285, 11, none⟩ = some (.int .i64 a0_11) := (blk_cell BK285.out 11).trans rfl; have hfz8_0 := blk_frozen BK285.out 0; have hfz8_1 := blk_frozen BK285.out 1; have hfz8_2 := blk_frozen BK285.out 2; have hfz8_3 := blk_frozen BK285.out 3; have hfz8_4 := blk_frozen BK285.out 4; have hfz8_5 := blk_frozen BK285.out 5; have hfz8_6 := blk_frozen BK285.out 6; have hfz8_7 := blk_frozen BK285.out 7; have hfz8_8 := blk_frozen BK285.out 8; have hfz8_9 := blk_frozen BK285.out 9; have hfz8_10 := blk_frozen BK285.out 10; have hfz8_11 := blk_frozen BK285.out 11))
        go_ret
        exact ⟨by first | rfl | (simp [errW_none, errW_some] <;> rfl) | (simp [*, errW_none, errW_some] <;> rfl), by repeat (first | (with_reducible first | exact HB.out | apply below_alloc | apply pw_below_drewN | apply below_drew1 | refine below_set ?_ GE285.out) | exact HB.out)⟩
      · rw [if_neg c6] at H
        have c6b0 : (a0_6 == (-1)) = false := beq_eq_false_iff_ne.mpr c6
        have c6b1 : (a0_6 != (-1)) = true := bne_iff_ne.mpr c6
        obtain rfl := Option.some.inj H
        go_enter Tryz.func40, Tryz.ntmps40
        go_wp2_with (first | ((with_reducible refine gate_dst (N := 1) rfl ?_); refine box_event ?hg (N := 1) ?hd (cs := #[.bool a0_0, .bool false, .bool a0_2, .bool a0_3, .bool a0_4, .bool a0_5, .int .i64 a0_6, .int .i64 a0_7, .int .i64 a0_8, .int .i64 a0_9, .int .i64 a0_10, .int .i64 a0_11]) (t := 43) ?hr ?_; (case hd => rfl); (case hg => rfl); (case hr => first | (go_simp; done) | (go_simp; rfl)); intro gb285 hg w9 hbox hb; have n0_ := Aside0.mk (below_step (by repeat (first | (with_reducible first | exact HB.out | apply below_alloc | apply pw_below_drewN | apply below_drew1) | exact HB.out)) hb); have n1_ := Aside0.mk (hbox); have n2_ := Aside0.mk ((by rw [hg]; exact (below_size (by repeat (first | (with_reducible first | exact HB.out | apply below_alloc | apply pw_below_drewN | apply below_drew1) | exact HB.out))) : w.heap.size ≤ gb285)); have n3_ := Aside0.mk ((by rw [hg]; exact (below_size (by repeat (first | (with_reducible first | exact HB.out | apply below_alloc | apply pw_below_drewN | apply below_drew1) | exact HB.out))) : w.heap.size ≤ gb285)); clear HB; have HB := n0_; have BK285 := n1_; have GW285 := n2_; have GE285 := n3_; clear n0_ n1_ n2_ n3_; clear hb hbox hg; have hcz10_0 : w9.cell? ⟨gb285, 0, none⟩ = some (.bool a0_0) := (blk_cell BK285.out 0).trans rfl; have hcz10_1 : w9.cell? ⟨gb285, 1, none⟩ = some (.bool false) := (blk_cell BK285.out 1).trans rfl; have hcz10_2 : w9.cell? ⟨gb285, 2, none⟩ = some (.bool a0_2) := (blk_cell BK285.out 2).trans rfl; have hcz10_3 : w9.cell? ⟨gb285, 3, none⟩ = some (.bool a0_3) := (blk_cell BK285.out 3).trans rfl; have hcz10_4 : w9.cell? ⟨gb285, 4, none⟩ = some (.bool a0_4) := (blk_cell BK285.out 4).trans rfl; have hcz10_5 : w9.cell? ⟨gb285, 5, none⟩ = some (.bool a0_5) := (blk_cell BK285.out 5).trans rfl; have hcz10_6 : w9.cell? ⟨gb285, 6, none⟩ = some (.int .i64 a0_6) := (blk_cell BK285.out 6).trans rfl; have hcz10_7 : w9.cell? ⟨gb285, 7, none⟩ = some (.int .i64 a0_7) := (blk_cell BK285.out 7).trans rfl; have hcz10_8 : w9.cell? ⟨gb285, 8, none⟩ = some (.int .i64 a0_8) := (blk_cell BK285.out 8).trans rfl; have hcz10_9 : w9.cell? ⟨gb285, 9, none⟩ = some (.int .i64 a0_9) := (blk_cell BK285.out 9).trans rfl; have hcz10_10 : w9.cell? ⟨gb285, 10, none⟩ = some (.int .i64 a0_10) := (blk_cell BK285.out 10).trans rfl; have hcz10_11 : w9.cell? ⟨gb285, 11, none⟩ = some (.int .i64 a0_11) := (blk_cell BK285.out 11).trans rfl; have hfz10_0 := blk_frozen BK285.out 0; have hfz10_1 := blk_frozen BK285.out 1; have hfz10_2 := blk_frozen BK285.out 2; have hfz10_3 := blk_frozen BK285.out 3; have hfz10_4 := blk_frozen BK285.out 4; have hfz10_5 := blk_frozen BK285.out 5; have hfz10_6 := blk_frozen BK285.out 6; have hfz10_7 := blk_frozen BK285.out 7; have hfz10_8 := blk_frozen BK285.out 8; have hfz10_9 := blk_frozen BK285.out 9; have hfz10_10 := blk_frozen BK285.out 10; have hfz10_11 := blk_frozen BK285.out 11))
        go_ret
        exact ⟨by first | rfl | (simp [errW_none, errW_some] <;> rfl) | (simp [*, errW_none, errW_some] <;> rfl), by repeat (first | (with_reducible first | exact HB.out | apply below_alloc | apply pw_below_drewN | apply below_drew1 | refine below_set ?_ GE285.out) | exact HB.out)⟩
    · rw [if_neg c5] at H
      have c5b0 : (a0_7 == (-1)) = false := beq_eq_false_iff_ne.mpr c5
      have c5b1 : (a0_7 != (-1)) = true := bne_iff_ne.mpr c5
      obtain rfl := Option.some.inj H
      go_enter Tryz.func40, Tryz.ntmps40
      go_wp2_with (first | ((with_reducible refine gate_dst (N := 1) rfl ?_); refine box_event ?hg (N := 1) ?hd (cs := #[.bool a0_0, .bool false, .bool a0_2, .bool a0_3, .bool a0_4, .bool a0_5, .int .i64 a0_6, .int .i64 a0_7, .int .i64 a0_8, .int .i64 a0_9, .int .i64 a0_10, .int .i64 a0_11]) (t := 43) ?hr ?_; (case hd => rfl); (case hg => rfl); (case hr => first | (go_simp; done) | (go_simp; rfl)); intro gb285 hg w11 hbox hb; have n0_ := Aside0.mk (below_step (by repeat (first | (with_reducible first | exact HB.out | apply below_alloc | apply pw_below_drewN | apply below_drew1) | exact HB.out)) hb); have n1_ := Aside0.mk (hbox); have n2_ := Aside0.mk ((by rw [hg]; exact (below_size (by repeat (first | (with_reducible first | exact HB.out | apply below_alloc | apply pw_below_drewN | apply below_drew1) | exact HB.out))) : w.heap.size ≤ gb285)); have n3_ := Aside0.mk ((by rw [hg]; exact (below_size (by repeat (first | (with_reducible first | exact HB.out | apply below_alloc | apply pw_below_drewN | apply below_drew1) | exact HB.out))) : w.heap.size ≤ gb285)); clear HB; have HB := n0_; have BK285 := n1_; have GW285 := n2_; have GE285 := n3_; clear n0_ n1_ n2_ n3_; clear hb hbox hg; have hcz12_0 : w11.cell? ⟨gb285, 0, none⟩ = some (.bool a0_0) := (blk_cell BK285.out 0).trans rfl; have hcz12_1 : w11.cell? ⟨gb285, 1, none⟩ = some (.bool false) := (blk_cell BK285.out 1).trans rfl; have hcz12_2 : w11.cell? ⟨gb285, 2, none⟩ = some (.bool a0_2) := (blk_cell BK285.out 2).trans rfl; have hcz12_3 : w11.cell? ⟨gb285, 3, none⟩ = some (.bool a0_3) := (blk_cell BK285.out 3).trans rfl; have hcz12_4 : w11.cell? ⟨gb285, 4, none⟩ = some (.bool a0_4) := (blk_cell BK285.out 4).trans rfl; have hcz12_5 : w11.cell? ⟨gb285, 5, none⟩ = some (.bool a0_5) := (blk_cell BK285.out 5).trans rfl; have hcz12_6 : w11.cell? ⟨gb285, 6, none⟩ = some (.int .i64 a0_6) := (blk_cell BK285.out 6).trans rfl; have hcz12_7 : w11.cell? ⟨gb285, 7, none⟩ = some (.int .i64 a0_7) := (blk_cell BK285.out 7).trans rfl; have hcz12_8 : w11.cell? ⟨gb285, 8, none⟩ = some (.int .i64 a0_8) := (blk_cell BK285.out 8).trans rfl; have hcz12_9 : w11.cell? ⟨gb285, 9, none⟩ = some (.int .i64 a0_9) := (blk_cell BK285.out 9).trans rfl; have hcz12_10 : w11.cell? ⟨gb285, 10, none⟩ = some (.int .i64 a0_10) := (blk_cell BK285.out 10).trans rfl; have hcz12_11 : w11.cell? ⟨gb285, 11, none⟩ = some (.int .i64 a0_11) := (blk_cell BK285.out 11).trans rfl; have hfz12_0 := blk_frozen BK285.out 0; have hfz12_1 := blk_frozen BK285.out 1; have hfz12_2 := blk_frozen BK285.out 2; have hfz12_3 := blk_frozen BK285.out 3; have hfz12_4 := blk_frozen BK285.out 4; have hfz12_5 := blk_frozen BK285.out 5; have hfz12_6 := blk_frozen BK285.out 6; have hfz12_7 := blk_frozen BK285.out 7; have hfz12_8 := blk_frozen BK285.out 8; have hfz12_9 := blk_frozen BK285.out 9; have hfz12_10 := blk_frozen BK285.out 10; have hfz12_11 := blk_frozen BK285.out 11))
      go_ret
      exact ⟨by first | rfl | (simp [errW_none, errW_some] <;> rfl) | (simp [*, errW_none, errW_some] <;> rfl), by repeat (first | (with_reducible first | exact HB.out | apply below_alloc | apply pw_below_drewN | apply below_drew1 | refine below_set ?_ GE285.out) | exact HB.out)⟩

end Go.Proofs.YthgjnpmebjlecaaGreatDoor.P
/- cache.Lifetime of a right response whose headers tell one part, 'max-age=2', and no 'vary': 2000; conditions: those that stand in the theorem. -/
namespace Go.Proofs.YthgjnpmebjlecaaGreatDoor.Ext
open Go.RowKit Go.Proofs.YthgjnpmebjlecaaGreatDoorW.PrintWords Go.Proofs.YthgjnpmebjlecaaGreatDoorW.PrintLast Go.Proofs.YthgjnpmebjlecaaGreatDoorW.PrintMore Go.Proofs.YthgjnpmebjlecaaGreatDoor.P

set_option maxHeartbeats 4000000 in
set_option maxRecDepth 100000 in
theorem life_two (st : Int) (A0 : Option Addr) (c0 : Nat) (l0 : List S49) (body : ByteArray) (w : World) (hr0 : Kd.C k49 w A0 l0.length l0) (hc0 : l0.length ≤ c0) (k : Nat)
    (h0 : message_CheckResponse.f k st l0 body = some 0) (h1 : message_Values.f k l0 ccName = some [ageTwo]) (h2 : message_Parts.f k [ageTwo] = some [ageTwo])
    (g1 : strings_Cut.f ageTwo ⟨#[61]⟩ = some (⟨#[109, 97, 120, 45, 97, 103, 101]⟩, ⟨#[50]⟩, true)) (g2 : cache_seconds.f k ⟨#[50]⟩ = some (2, true)) (g3 : message_IsToken.f k ⟨#[109, 97, 120, 45, 97, 103, 101]⟩ = some true)
    (g4 : strings_ToLower.f ⟨#[109, 97, 120, 45, 97, 103, 101]⟩ = some ⟨#[109, 97, 120, 45, 97, 103, 101]⟩) (g5 : slices_Index_string_string.f k flagNames ⟨#[109, 97, 120, 45, 97, 103, 101]⟩ = some (-1)) (g6 : slices_Index_string_string.f k numberNames ⟨#[109, 97, 120, 45, 97, 103, 101]⟩ = some 0)
    (v1 : message_Values.f k l0 varyName = some []) (v2 : message_Parts.f k [] = some []) (v3 : slices_Contains_string_string.f k [] ⟨#[42]⟩ = some false) (t1 : cache_lifetime.f false false false false false false 2 (-1) (-1) (-1) (-1) (-1) = some 2000) :
    Calls Tryz.prog 21 #[.agg #[.int .i64 st, .slice A0 l0.length c0, .string body]] w fun e w' => e = .returned (.tuple #[.int .i64 2000, .int .i64 0]) ∧ Below w.heap.size w w' := by
  have T0 := Lib.hid h0
  have T1 := Lib.hid t1
  have T2 := fun w (hr : Kd.C k49 w A0 l0.length l0) => parse_age A0 c0 l0 w hr hc0 k h1 h2 g1 g2 g3 g4 g5 g6
  have T3 := fun w (hr : Kd.C k49 w A0 l0.length l0) => vary_none st A0 c0 l0 body w hr hc0 k v1 v2 v3
  have HR := Lib.hid hr0
  have HC := Lib.hid hc0
  clear h0 h1 h2 g1 g2 g3 g4 g5 g6 v1 v2 v3 t1 hr0 hc0
  go_enter Tryz.func21, Tryz.ntmps21
  go_wp2_with fail
  have b0 : Below w.heap.size w (w.alloc (Obj.cells #[Value.int IntKind.i64 st, Value.slice A0 l0.length c0, Value.string body] 58)) := (Below.refl _ w).alloc (Nat.le_refl _) _
  have B0 := Lib.hid b0
  have z0 := blk_new w (Obj.cells #[Value.int IntKind.i64 st, Value.slice A0 l0.length c0, Value.string body] 58)
  have Z0 := Lib.hid z0
  clear b0 z0
  refine (message_CheckResponse.calls k st A0 c0 l0 body 0 _ (Kd.C_below HR.out B0.out) HC.out T0.out).mono ?_
  rintro e w1 ⟨rfl, b1⟩
  have B1 := Lib.hid (B0.out.trans (b1.mono B0.out.size))
  have z1 := blk_below Z0.out b1
  have p0 : w1.cell? ⟨w.heap.size, 0, none⟩ = some (.int .i64 st) := blk_cell z1 0
  have p1 : w1.cell? ⟨w.heap.size, 1, none⟩ = some (.slice A0 l0.length c0) := blk_cell z1 1
  have p2 : w1.cell? ⟨w.heap.size, 2, none⟩ = some (.string body) := blk_cell z1 2
  have Z1 := Lib.hid z1
  clear b1 z1
  go_wp2_with fail
  refine (T2 _ (Kd.C_below HR.out B1.out)).mono ?_
  rintro e w2 ⟨rfl, b2⟩
  have B2 := Lib.hid (B1.out.trans (b2.mono B1.out.size))
  have z2 := blk_alloc (blk_below Z1.out b2) (Obj.cells #[Value.bool false, Value.bool false, Value.bool false, Value.bool false, Value.bool false, Value.bool false, Value.int IntKind.i64 2, Value.int IntKind.i64 (-1), Value.int IntKind.i64 (-1), Value.int IntKind.i64 (-1), Value.int IntKind.i64 (-1), Value.int IntKind.i64 (-1)] 43)
  have p0 : (w2.alloc (Obj.cells #[Value.bool false, Value.bool false, Value.bool false, Value.bool false, Value.bool false, Value.bool false, Value.int IntKind.i64 2, Value.int IntKind.i64 (-1), Value.int IntKind.i64 (-1), Value.int IntKind.i64 (-1), Value.int IntKind.i64 (-1), Value.int IntKind.i64 (-1)] 43)).cell? ⟨w.heap.size, 0, none⟩ = some (.int .i64 st) := blk_cell z2 0
  have p1 : (w2.alloc (Obj.cells #[Value.bool false, Value.bool false, Value.bool false, Value.bool false, Value.bool false, Value.bool false, Value.int IntKind.i64 2, Value.int IntKind.i64 (-1), Value.int IntKind.i64 (-1), Value.int IntKind.i64 (-1), Value.int IntKind.i64 (-1), Value.int IntKind.i64 (-1)] 43)).cell? ⟨w.heap.size, 1, none⟩ = some (.slice A0 l0.length c0) := blk_cell z2 1
  have p2 : (w2.alloc (Obj.cells #[Value.bool false, Value.bool false, Value.bool false, Value.bool false, Value.bool false, Value.bool false, Value.int IntKind.i64 2, Value.int IntKind.i64 (-1), Value.int IntKind.i64 (-1), Value.int IntKind.i64 (-1), Value.int IntKind.i64 (-1), Value.int IntKind.i64 (-1)] 43)).cell? ⟨w.heap.size, 2, none⟩ = some (.string body) := blk_cell z2 2
  have B2a := Lib.hid (B2.out.alloc B2.out.size (Obj.cells #[Value.bool false, Value.bool false, Value.bool false, Value.bool false, Value.bool false, Value.bool false, Value.int IntKind.i64 2, Value.int IntKind.i64 (-1), Value.int IntKind.i64 (-1), Value.int IntKind.i64 (-1), Value.int IntKind.i64 (-1), Value.int IntKind.i64 (-1)] 43))
  have X2 := Lib.hid (blk_new w2 (Obj.cells #[Value.bool false, Value.bool false, Value.bool false, Value.bool false, Value.bool false, Value.bool false, Value.int IntKind.i64 2, Value.int IntKind.i64 (-1), Value.int IntKind.i64 (-1), Value.int IntKind.i64 (-1), Value.int IntKind.i64 (-1), Value.int IntKind.i64 (-1)] 43))
  clear b2 z2
  go_wp2_with fail
  refine (T3 _ (Kd.C_below HR.out B2a.out)).mono ?_
  rintro e w3 ⟨A3, c3, rfl, b3⟩
  have B3 := Lib.hid (B2a.out.trans (b3.mono B2a.out.size))
  have x3 := blk_below X2.out b3
  have c0 : w3.cell? ⟨w2.heap.size, 0, none⟩ = some (.bool false) := blk_cell x3 0
  have c1 : w3.cell? ⟨w2.heap.size, 1, none⟩ = some (.bool false) := blk_cell x3 1
  have c2 : w3.cell? ⟨w2.heap.size, 2, none⟩ = some (.bool false) := blk_cell x3 2
  have c3 : w3.cell? ⟨w2.heap.size, 3, none⟩ = some (.bool false) := blk_cell x3 3
  have c4 : w3.cell? ⟨w2.heap.size, 4, none⟩ = some (.bool false) := blk_cell x3 4
  have c5 : w3.cell? ⟨w2.heap.size, 5, none⟩ = some (.bool false) := blk_cell x3 5
  have c6 : w3.cell? ⟨w2.heap.size, 6, none⟩ = some (.int .i64 2) := blk_cell x3 6
  have c7 : w3.cell? ⟨w2.heap.size, 7, none⟩ = some (.int .i64 (-1)) := blk_cell x3 7
  have c8 : w3.cell? ⟨w2.heap.size, 8, none⟩ = some (.int .i64 (-1)) := blk_cell x3 8
  have c9 : w3.cell? ⟨w2.heap.size, 9, none⟩ = some (.int .i64 (-1)) := blk_cell x3 9
  have c10 : w3.cell? ⟨w2.heap.size, 10, none⟩ = some (.int .i64 (-1)) := blk_cell x3 10
  have c11 : w3.cell? ⟨w2.heap.size, 11, none⟩ = some (.int .i64 (-1)) := blk_cell x3 11
  clear b3 x3
  go_wp2_with fail
  refine (cache_lifetime.calls false false false false false false 2 (-1) (-1) (-1) (-1) (-1) 2000 _ T1.out).mono ?_
  rintro e w4 ⟨rfl, b4⟩
  have B4 := Lib.hid (B3.out.trans (b4.mono B3.out.size))
  clear b4
  go_wp2_with fail
  go_ret2
  exact ⟨rfl, B4.out⟩
end Go.Proofs.YthgjnpmebjlecaaGreatDoor.Ext
/- The machine's side, printed by a program of this session: each Go function named below comes to the Lean function of its name; conditions: those of each theorem. -/
namespace Go.Proofs.YthgjnpmebjlecaaGreatDoor.P
open Go.RowKit Go.Proofs.YthgjnpmebjlecaaGreatDoorW.PrintWords Go.Proofs.YthgjnpmebjlecaaGreatDoorW.PrintLast Go.Proofs.YthgjnpmebjlecaaGreatDoorW.PrintMore
attribute [local go_sem] max2_int min2_int max_two min_two max_three min_three max_four min_four   -- for this text's walks alone
set_option linter.unusedVariables false
set_option linter.unusedSimpArgs false

/-! ### portal_kindWords: function 43 -/
def portal_kindWords.f  : Option (List ByteArray) := some (([(⟨#[]⟩ : ByteArray), (⟨#[97, 115, 107]⟩ : ByteArray), (⟨#[97, 112, 112, 114, 111, 118, 101]⟩ : ByteArray), (⟨#[114, 101, 102, 117, 115, 101]⟩ : ByteArray), (⟨#[112, 97, 117, 115, 101]⟩ : ByteArray), (⟨#[114, 101, 115, 117, 109, 101]⟩ : ByteArray), (⟨#[101, 110, 100]⟩ : ByteArray)] : List ByteArray))
set_option maxHeartbeats 8000000 in
set_option maxRecDepth 100000 in
theorem portal_kindWords.calls  (r : List ByteArray) (w : World) (h : portal_kindWords.f  = some r) :
    Calls Tryz.prog 43 #[] w fun e w' => ∃ v0_ : Value, e = .returned (v0_) ∧ Kd.R Kd.string 9 w' w.heap.size (fun _ => True) v0_ r ∧ Below w.heap.size w w' := by
  have HB := Aside0.mk (Below.refl w.heap.size w)
  have H : (some (([(⟨#[]⟩ : ByteArray), (⟨#[97, 115, 107]⟩ : ByteArray), (⟨#[97, 112, 112, 114, 111, 118, 101]⟩ : ByteArray), (⟨#[114, 101, 102, 117, 115, 101]⟩ : ByteArray), (⟨#[112, 97, 117, 115, 101]⟩ : ByteArray), (⟨#[114, 101, 115, 117, 109, 101]⟩ : ByteArray), (⟨#[101, 110, 100]⟩ : ByteArray)] : List ByteArray))) = some r := h
  clear h
  obtain ⟨y304, hy304⟩ : ∃ y_ : List ByteArray, y_ = (([(⟨#[]⟩ : ByteArray), (⟨#[97, 115, 107]⟩ : ByteArray), (⟨#[97, 112, 112, 114, 111, 118, 101]⟩ : ByteArray), (⟨#[114, 101, 102, 117, 115, 101]⟩ : ByteArray), (⟨#[112, 97, 117, 115, 101]⟩ : ByteArray), (⟨#[114, 101, 115, 117, 109, 101]⟩ : ByteArray), (⟨#[101, 110, 100]⟩ : ByteArray)] : List ByteArray)) := ⟨_, rfl⟩
  replace H : (some y304) = some r := by first | (rw [hy304]; with_reducible exact H) | (have H2_ := (Option.bind_some _ _).symm.trans H; rw [hy304]; with_reducible exact H2_) | (have H2_ := (Option.bind_some _ _).symm.trans H; with_reducible exact H2_) | with_reducible exact H | (rw [hy304]; exact H) | exact H
  have Ny304 := Aside0.mk hy304
  clear hy304
  obtain rfl := Option.some.inj H
  go_enter Tryz.func43, Tryz.ntmps43
  go_wp2_with (first | ((with_reducible refine gate_dst (N := 1) rfl ?_); refine Kd.R_lit Kd.string _ 9 ?hg (N := 1) ?hd (xs := ([(⟨#[]⟩ : ByteArray), (⟨#[97, 115, 107]⟩ : ByteArray), (⟨#[97, 112, 112, 114, 111, 118, 101]⟩ : ByteArray), (⟨#[114, 101, 102, 117, 115, 101]⟩ : ByteArray), (⟨#[112, 97, 117, 115, 101]⟩ : ByteArray), (⟨#[114, 101, 115, 117, 109, 101]⟩ : ByteArray), (⟨#[101, 110, 100]⟩ : ByteArray)] : List ByteArray)) (inner := [.string (⟨#[]⟩ : ByteArray), .string (⟨#[97, 115, 107]⟩ : ByteArray), .string (⟨#[97, 112, 112, 114, 111, 118, 101]⟩ : ByteArray), .string (⟨#[114, 101, 102, 117, 115, 101]⟩ : ByteArray), .string (⟨#[112, 97, 117, 115, 101]⟩ : ByteArray), .string (⟨#[114, 101, 115, 117, 109, 101]⟩ : ByteArray), .string (⟨#[101, 110, 100]⟩ : ByteArray)]) (ok := fun _ => True) (okp := fun _ => True) ?hr ?hp (fun _ hk => hk) trivial (Below.refl _ _) (Nat.le_refl _) (by simp) ?_; (case hd => rfl); (case hg => rfl); (case hr => first | (go_simp; done) | (go_simp; rfl)); (case hp => exact (Reps.one (show Kd.M Kd.string _ _ _ (⟨#[]⟩ : ByteArray) [.string (⟨#[]⟩ : ByteArray)] from rfl) (Reps.one (show Kd.M Kd.string _ _ _ (⟨#[97, 115, 107]⟩ : ByteArray) [.string (⟨#[97, 115, 107]⟩ : ByteArray)] from rfl) (Reps.one (show Kd.M Kd.string _ _ _ (⟨#[97, 112, 112, 114, 111, 118, 101]⟩ : ByteArray) [.string (⟨#[97, 112, 112, 114, 111, 118, 101]⟩ : ByteArray)] from rfl) (Reps.one (show Kd.M Kd.string _ _ _ (⟨#[114, 101, 102, 117, 115, 101]⟩ : ByteArray) [.string (⟨#[114, 101, 102, 117, 115, 101]⟩ : ByteArray)] from rfl) (Reps.one (show Kd.M Kd.string _ _ _ (⟨#[112, 97, 117, 115, 101]⟩ : ByteArray) [.string (⟨#[112, 97, 117, 115, 101]⟩ : ByteArray)] from rfl) (Reps.one (show Kd.M Kd.string _ _ _ (⟨#[114, 101, 115, 117, 109, 101]⟩ : ByteArray) [.string (⟨#[114, 101, 115, 117, 109, 101]⟩ : ByteArray)] from rfl) (Reps.one (show Kd.M Kd.string _ _ _ (⟨#[101, 110, 100]⟩ : ByteArray) [.string (⟨#[101, 110, 100]⟩ : ByteArray)] from rfl) (Reps.none _ _))))))))); intro v305 w1 ho2 hb hg_ hnew_; clear hg_ hnew_; (first | rw [← Ny304.out] at ho2 | (simp only [Int.reduceToNat] at ho2; rw [← Ny304.out] at ho2)); have n0_ := Aside0.mk (Kd.R_lower ho2 (below_size (by repeat (first | (with_reducible first | exact HB.out | apply below_alloc | apply pw_below_drewN | apply below_drew1) | exact HB.out)))); have n1_ := Aside0.mk (below_step (by repeat (first | (with_reducible first | exact HB.out | apply below_alloc | apply pw_below_drewN | apply below_drew1) | exact HB.out)) hb); clear HB; have HO306 := n0_; have HB := n1_; clear n0_ n1_; clear hb ho2))
  go_ret
  exact ⟨_, by first | rfl | (simp [errW_none, errW_some] <;> rfl) | (simp [*, errW_none, errW_some] <;> rfl), by (with_reducible repeat (first | apply Kd.R_alloc | apply Kd.R_drewN | apply Kd.R_drew)); exact HO306.out, by repeat (first | (with_reducible first | exact HB.out | apply below_alloc | apply pw_below_drewN | apply below_drew1) | exact HB.out)⟩

end Go.Proofs.YthgjnpmebjlecaaGreatDoor.P
/- portal.Text of one event, the end of a plan: its line; conditions: those that stand in the theorems. -/
namespace Go.Proofs.YthgjnpmebjlecaaGreatDoor.Ext
open Go.RowKit Go.Proofs.YthgjnpmebjlecaaGreatDoorW.PrintWords Go.Proofs.YthgjnpmebjlecaaGreatDoorW.PrintLast Go.Proofs.YthgjnpmebjlecaaGreatDoorW.PrintMore Go.Proofs.YthgjnpmebjlecaaGreatDoor.P

set_option maxHeartbeats 4000000 in
set_option maxRecDepth 100000 in
theorem moment_five (w : World) : Calls Tryz.prog 67 #[.int .i64 5] w fun e w' => e = .returned (.bool true) ∧ w' = w := by
  go_enter Tryz.func67, Tryz.ntmps67
  go_wp2
  all_goals (go_ret; exact ⟨rfl, rfl⟩)
theorem cell_below {w w' : World} {a i : Nat} {v : Value} (hb : Below w.heap.size w w') (h : w.cell? ⟨a, i, none⟩ = some v) : w'.cell? ⟨a, i, none⟩ = some v := by
  have hlt : a < w.heap.size := by
    rcases Nat.lt_or_ge a w.heap.size with h1 | h1
    · exact h1
    · have : w.heap[a]? = none := Array.getElem?_eq_none h1
      simp [World.cell?, this] at h
  have e := hb.block a hlt
  simp only [World.cell?, e] at h ⊢
  exact h
def appA : ByteArray := ⟨#[97]⟩
def prodP : ByteArray := ⟨#[112]⟩
set_option maxHeartbeats 4000000 in
set_option maxRecDepth 100000 in
theorem form_end (g : Nat) (c0 : Nat) (w : World) (hc0 : 1 ≤ c0) (k : Nat)
    (x0 : w.cell? ⟨g, 0, none⟩ = some (.int .i64 5)) (x1 : w.cell? ⟨g, 1, none⟩ = some (.string appA)) (x2 : w.cell? ⟨g, 2, none⟩ = some (.string prodP)) (x3 : w.cell? ⟨g, 3, none⟩ = some (.int .i64 6)) (x4 : w.cell? ⟨g, 4, none⟩ = some (.string ByteArray.empty))
    (h1 : kit_IsKey.f k appA = some true) (h2 : kit_IsKey.f k prodP = some true) (h3 : kit_Outside.f 6 1 6 = some false) :
    Calls Tryz.prog 41 #[.slice (some ⟨g, 0, none⟩) 1 c0] w fun e w' => e = .returned (.int .i64 0) ∧ Below w.heap.size w w' := by
  have H1 := Lib.hid h1
  have H2 := Lib.hid h2
  have H3 := Lib.hid h3
  clear h1 h2 h3
  go_enter Tryz.func41, Tryz.ntmps41
  go_wp2_with fail
  go_loopw [10] (fun i wr => ∃ j : Nat, j ≤ 1 ∧ i = .int .i64 j ∧ Below w.heap.size w wr) (fun i _ => 1 - (intOf i).toNat)
  case atStart => exact ⟨0, by omega, rfl, Below.refl _ _⟩
  case round =>
    obtain ⟨j, hj, rfl, hbw⟩ := hrel
    by_cases hlt : j < 1
    · obtain rfl : j = 0 := by omega
      have y0 := cell_below hbw x0
      have y1 := cell_below hbw x1
      have y2 := cell_below hbw x2
      have y3 := cell_below hbw x3
      have y4 := cell_below hbw x4
      have HBW := Lib.hid hbw
      clear hbw x0 x1 x2 x3 x4
      go_wp2_with fail
      refine (moment_five _).mono ?_
      rintro e w1 ⟨rfl, rfl⟩
      go_wp2_with fail
      refine (kit_IsKey.calls k appA true _ H1.out).mono ?_
      rintro e w1 ⟨rfl, n1, rfl⟩
      go_wp2_with fail
      refine (kit_IsKey.calls k prodP true _ H2.out).mono ?_
      rintro e w2 ⟨rfl, n2, rfl⟩
      go_wp2_with fail
      refine (kit_Outside.calls 6 1 6 false _ H3.out).mono ?_
      rintro e w3 ⟨rfl, n3, rfl⟩
      go_wp2_with fail
      go_region
      all_goals go_wp2_with fail
      exact ⟨⟨1, by omega, rfl, pw_below_drewN (HBW.out.alloc HBW.out.size _) _⟩, by simp [intOf]⟩
    · obtain rfl : j = 1 := by omega
      go_wp2_with fail
      go_ret
      exact ⟨rfl, hbw⟩

def kindList : List ByteArray := [⟨#[]⟩, ⟨#[97, 115, 107]⟩, ⟨#[97, 112, 112, 114, 111, 118, 101]⟩, ⟨#[114, 101, 102, 117, 115, 101]⟩, ⟨#[112, 97, 117, 115, 101]⟩, ⟨#[114, 101, 115, 117, 109, 101]⟩, ⟨#[101, 110, 100]⟩]
def TextI (w : World) (b : Nat) (bs : List Value) (w' : World) : Prop := Lib.IsBuilderF 93 5 w.heap.size b bs w' ∧ Below w.heap.size w w'
theorem TextI.below {w W W' : World} {b : Nat} {bs : List Value} (h : TextI w b bs W) (hb : Below W.heap.size W W') : TextI w b bs W' := ⟨h.1.below hb, h.2.trans (hb.mono h.2.size)⟩
theorem TextI.drewN {w W : World} {b : Nat} {bs : List Value} (h : TextI w b bs W) (n : Nat) : TextI w b bs (W.drewN n) := h.below (pw_below_drewN (Below.refl _ _) n)
theorem text_string (w : World) (b : Nat) (bs : List Value) (s : ByteArray) (W : World) (h : TextI w b bs W) (hl : bs.length + s.size ≤ 140737488355328) :
    Calls Tryz.prog 42 #[.pointer (some ⟨b, 0, none⟩), .string s] W fun e W' => e = .returned (.tuple #[.int .i64 s.size, .nilIface]) ∧ TextI w b (bs ++ Lib.strCells s) W' ∧ Lib.OthersKept 5 (some b) W W' :=
  (Any.Builder_WriteString_k Tryz.laysb166 Tryz.Builder_Extra_166 w.heap.size b bs s W h.1 hl h.2.size).mono fun _ _ ⟨he, h1, h2, h3⟩ => ⟨he, ⟨.inr h1, h.2.trans h2⟩, h3⟩
theorem text_byte (w : World) (b : Nat) (bs : List Value) (c : Int) (W : World) (h : TextI w b bs W) (hl : bs.length + 1 ≤ 140737488355328) :
    Calls Tryz.prog 44 #[.pointer (some ⟨b, 0, none⟩), .int .u8 c] W fun e W' => e = .returned .nilIface ∧ TextI w b (bs ++ [.int .u8 c]) W' ∧ Lib.OthersKept 5 (some b) W W' :=
  (Any.Builder_WriteByte_k Tryz.laysb167 Tryz.Builder_Extra_167 w.heap.size b bs c W h.1 hl h.2.size).mono fun _ _ ⟨he, h1, h2, h3⟩ => ⟨he, ⟨.inr h1, h.2.trans h2⟩, h3⟩
theorem text_done (w : World) (b : Nat) (l : List UInt8) (W : World) (h : TextI w b (Lib.byteCells l) W) (hl : l ≠ []) :
    Calls Tryz.prog 45 #[.pointer (some ⟨b, 0, none⟩)] W fun e W' => e = .returned (.string ⟨l.toArray⟩) ∧ Below w.heap.size w W' :=
  (Any.Builder_String_k Tryz.lays169 Tryz.Builder_Extra_169 w.heap.size b l W h.1 hl).mono fun _ _ ⟨he, _, h2, _⟩ => ⟨he, h.2.trans h2⟩
def evObj : Obj := .cells #[.int .i64 5, .string appA, .string prodP, .int .i64 6, .string ByteArray.empty] 61 (0, 0)
def EvAt (g : Nat) (w : World) : Prop := w.heap[g]? = some evObj
def EvS (g : Nat) (w : World) : Prop := w.cell? ⟨g, 0, none⟩ = some (.int .i64 5) ∧ w.cell? ⟨g, 1, none⟩ = some (.string appA) ∧ w.cell? ⟨g, 2, none⟩ = some (.string prodP) ∧ w.cell? ⟨g, 3, none⟩ = some (.int .i64 6) ∧ EvAt g w
theorem ev_all {g : Nat} {w : World} (h : EvAt g w) : w.cell? ⟨g, 0, none⟩ = some (.int .i64 5) ∧ w.cell? ⟨g, 1, none⟩ = some (.string ⟨#[97]⟩) ∧ w.cell? ⟨g, 2, none⟩ = some (.string ⟨#[112]⟩) ∧ w.cell? ⟨g, 3, none⟩ = some (.int .i64 6) ∧ EvAt g w :=
  ⟨blk_cell h 0, blk_cell h 1, blk_cell h 2, blk_cell h 3, h⟩
theorem EvAt.below {g : Nat} {w w' : World} (h : EvAt g w) (hb : Below w.heap.size w w') : EvAt g w' := blk_below h hb
theorem EvAt.drewN {g : Nat} {w : World} (h : EvAt g w) (n : Nat) : EvAt g (w.drewN n) := h
theorem cell_drewN_ {w : World} {a : Addr} {v : Value} (h : w.cell? a = some v) (n : Nat) : (w.drewN n).cell? a = some v := h
theorem TextI.drew {w W : World} {b : Nat} {bs : List Value} (h : TextI w b bs W) : TextI w b bs W.drew := h.below (Below.drew (Below.refl _ _))
theorem words_row {w : World} {base : Nat} {v : Value} (hr : Kd.R Kd.string 9 w base (fun _ => True) v kindList) : ∃ g2 c2, v = .slice (some ⟨g2, 0, none⟩) 7 c2 ∧ 7 ≤ c2 ∧ w.cell? ⟨g2, 6, none⟩ = some (.string ⟨#[101, 110, 100]⟩) := by
  obtain ⟨A2, c2, rfl, l2, q2⟩ := Kd.R_reads hr
  obtain ⟨ad, e2, x6⟩ := Kd.at_string q2 6 (by omega) (by decide)
  cases e2
  obtain ⟨g2, rfl⟩ := Kd.R_head hr
  exact ⟨g2, c2, rfl, l2, x6⟩
theorem EvAt.drew {g : Nat} {w : World} (h : EvAt g w) : EvAt g w.drew := h
def lineCells : List Value := Lib.byteCells [53, 32, 97, 32, 112, 32, 101, 110, 100, 10]
set_option maxHeartbeats 4000000 in
set_option maxRecDepth 100000 in
theorem text_end (g : Nat) (c0 : Nat) (w : World) (hc0 : 1 ≤ c0) (k : Nat)
    (x0 : w.cell? ⟨g, 0, none⟩ = some (.int .i64 5)) (x1 : w.cell? ⟨g, 1, none⟩ = some (.string appA)) (x2 : w.cell? ⟨g, 2, none⟩ = some (.string prodP)) (x3 : w.cell? ⟨g, 3, none⟩ = some (.int .i64 6)) (x4 : w.cell? ⟨g, 4, none⟩ = some (.string ByteArray.empty))
    (h1 : kit_IsKey.f k appA = some true) (h2 : kit_IsKey.f k prodP = some true) (h3 : kit_Outside.f 6 1 6 = some false) (h4 : strconv_Itoa.f 5 = some ⟨#[53]⟩) (h5 : portal_kindWords.f = some kindList) :
    Calls Tryz.prog 22 #[.slice (some ⟨g, 0, none⟩) 1 c0] w fun e w' => e = .returned (.tuple #[.string ⟨#[53, 32, 97, 32, 112, 32, 101, 110, 100, 10]⟩, .int .i64 0]) ∧ Below w.heap.size w w' := by
  have FF := form_end g c0 w hc0 k x0 x1 x2 x3 x4 h1 h2 h3
  have HI := Lib.hid h4
  have HK := Lib.hid h5
  clear h1 h2 h3 h4 h5
  go_enter Tryz.func22, Tryz.ntmps22
  go_wp2_with fail
  refine FF.mono ?_
  rintro e w1 ⟨rfl, b1⟩
  have y0 := cell_below b1 x0
  have y1 := cell_below b1 x1
  have y2 := cell_below b1 x2
  have y3 := cell_below b1 x3
  have y4 := cell_below b1 x4
  go_wp2_with fail
  have hB0 : Lib.IsBuilderF 93 5 w.heap.size w1.heap.size [] (w1.alloc (Obj.cells #[Value.pointer none, Value.slice none 0 0] 93)) :=
    Lib.IsBuilderF.of (.inl ⟨b1.size, .slice none 0 0, blk_new _ _, own_nil _ _ _ _, by simp [Value.ownBlock]⟩)
  have hBl : Below w.heap.size w (w1.alloc (Obj.cells #[Value.pointer none, Value.slice none 0 0] 93)) := b1.alloc b1.size _
  have HB0 := Lib.hid hB0
  have HBl := Lib.hid hBl
  clear hB0 hBl
  go_loopw [15] (fun i wr => ∃ j : Nat, j ≤ 1 ∧ i = .int .i64 j ∧ TextI w w1.heap.size (if j = 0 then [] else lineCells) wr) (fun i _ => 1 - (intOf i).toNat)
  case atStart => exact ⟨0, by omega, rfl, HB0.out, HBl.out⟩
  case round =>
    obtain ⟨j, hj, rfl, hti⟩ := hrel
    by_cases hlt : j < 1
    · obtain rfl : j = 0 := by omega
      have z0 := cell_below hti.2 x0
      have z1 := cell_below hti.2 x1
      have z2 := cell_below hti.2 x2
      have z3 := cell_below hti.2 x3
      have z4 := cell_below hti.2 x4
      have HTI := Lib.hid hti
      clear hti x0 x1 x2 x3 x4 y0 y1 y2 y3 y4
      go_wp2_with fail
      have hev : EvAt wr.heap.size (wr.alloc (Obj.cells #[.int .i64 5, .string appA, .string prodP, .int .i64 6, .string ByteArray.empty] 61)) := blk_new _ _
      have hti : TextI w w1.heap.size [] (wr.alloc (Obj.cells #[.int .i64 5, .string appA, .string prodP, .int .i64 6, .string ByteArray.empty] 61)) := HTI.out.below ((Below.refl _ _).alloc (Nat.le_refl _) _)
      have hne : some wr.heap.size ≠ some w1.heap.size := by
        have := HTI.out.1.elim (fun x => x.lt) (fun x => x.lt)
        simp; omega
      --REGION
      refine start_ (n := 19) (S := fun w' => w'.cell? ⟨wr.heap.size, 0, none⟩ = some (.int .i64 5) ∧ w'.cell? ⟨wr.heap.size, 1, none⟩ = some (.string ⟨#[97]⟩) ∧ w'.cell? ⟨wr.heap.size, 2, none⟩ = some (.string ⟨#[112]⟩) ∧ w'.cell? ⟨wr.heap.size, 3, none⟩ = some (.int .i64 6) ∧ EvAt wr.heap.size w') (ds := []) #[false, false, false, false, false, false, false, false, false, false, false, false, false, false, false, false, false, false, false] (by kernel_rfl) rfl rfl (ev_all hev) (fun hHeld => ?_)
      refine pure_ (i := 0) (N := some 19) (v := ?_) (a' := ?_) #[true, false, false, false, false, false, false, false, false, false, false, false, false, false, false, false, false, false, false] rfl rfl (by kernel_rfl) (fun _ _ _ h => h) (Or.inl ⟨by rfl, ?_⟩) ?_ ?_
      rotate_left
      · intro w'
        go_simp
        with_reducible rfl
      rotate_left
      · simp only [Act.put, List.setIfInBounds_toArray, List.set_cons_zero, List.set_cons_succ]
        rfl
      refine pure_ (i := 4) (N := some 23) (v := ?_) (a' := ?_) #[true, false, false, false, true, false, false, false, false, false, false, false, false, false, false, false, false, false, false] rfl rfl (by kernel_rfl) (fun _ _ _ h => h) (Or.inl ⟨by rfl, ?_⟩) ?_ ?_
      rotate_left
      · intro w'
        go_simp
        with_reducible rfl
      rotate_left
      · simp only [Act.put, List.setIfInBounds_toArray, List.set_cons_zero, List.set_cons_succ]
        rfl
      refine pure_ (i := 8) (N := some 27) (v := ?_) (a' := ?_) #[true, false, false, false, true, false, false, false, true, false, false, false, false, false, false, false, false, false, false] rfl rfl (by kernel_rfl) (fun _ _ _ h => h) (Or.inl ⟨by rfl, ?_⟩) ?_ ?_
      rotate_left
      · intro w'
        go_simp
        with_reducible rfl
      rotate_left
      · simp only [Act.put, List.setIfInBounds_toArray, List.set_cons_zero, List.set_cons_succ]
        rfl
      refine pure_ (i := 13) (N := some 32) (v := ?_) (a' := ?_) #[true, false, false, false, true, false, false, false, true, false, false, false, false, true, false, false, false, false, false] rfl rfl (by kernel_rfl) (fun _ _ _ h => h) (Or.inl ⟨by rfl, ?_⟩) ?_ ?_
      rotate_left
      · intro w'
        go_simp
        with_reducible rfl
      rotate_left
      · simp only [Act.put, List.setIfInBounds_toArray, List.set_cons_zero, List.set_cons_succ]
        rfl
      refine take_ (i := 1) (N := some 20) (v := ?_) (a' := ?_) #[true, true, false, false, true, false, false, false, true, false, false, false, false, true, false, false, false, false, false] rfl rfl (by kernel_rfl) (fun _ _ _ h => h) (Or.inl ⟨by rfl, ?_⟩) hHeld ?_ ?_
      rotate_left
      · rintro w' ⟨s0, s1, s2, s3, s4⟩
        go_simp
        with_reducible rfl
      rotate_left
      · simp only [Act.put, List.setIfInBounds_toArray, List.set_cons_zero, List.set_cons_succ]
        rfl
      refine take_ (i := 5) (N := some 24) (v := ?_) (a' := ?_) #[true, true, false, false, true, true, false, false, true, false, false, false, false, true, false, false, false, false, false] rfl rfl (by kernel_rfl) (fun _ _ _ h => h) (Or.inl ⟨by rfl, ?_⟩) hHeld ?_ ?_
      rotate_left
      · rintro w' ⟨s0, s1, s2, s3, s4⟩
        go_simp
        with_reducible rfl
      rotate_left
      · simp only [Act.put, List.setIfInBounds_toArray, List.set_cons_zero, List.set_cons_succ]
        rfl
      refine take_ (i := 9) (N := some 28) (v := ?_) (a' := ?_) #[true, true, false, false, true, true, false, false, true, true, false, false, false, true, false, false, false, false, false] rfl rfl (by kernel_rfl) (fun _ _ _ h => h) (Or.inl ⟨by rfl, ?_⟩) hHeld ?_ ?_
      rotate_left
      · rintro w' ⟨s0, s1, s2, s3, s4⟩
        go_simp
        with_reducible rfl
      rotate_left
      · simp only [Act.put, List.setIfInBounds_toArray, List.set_cons_zero, List.set_cons_succ]
        rfl
      refine take_ (i := 14) (N := some 33) (v := ?_) (a' := ?_) #[true, true, false, false, true, true, false, false, true, true, false, false, false, true, true, false, false, false, false] rfl rfl (by kernel_rfl) (fun _ _ _ h => h) (Or.inl ⟨by rfl, ?_⟩) hHeld ?_ ?_
      rotate_left
      · rintro w' ⟨s0, s1, s2, s3, s4⟩
        go_simp
        with_reducible rfl
      rotate_left
      · simp only [Act.put, List.setIfInBounds_toArray, List.set_cons_zero, List.set_cons_succ]
        rfl
      refine one_ (i := 2) (N := some 21) #[true, true, true, false, true, true, false, false, true, true, false, false, false, true, true, false, false, false, false] rfl rfl (by kernel_rfl) (by decide) (fun K hK => ?_)
      refine goes_ Tryz.func30 (by kernel_rfl) rfl #[.int .i64 5] (by rfl) rfl rfl (by (try simp only [List.map_toArray, List.map_cons, List.map_nil]); first | done | rfl) ?_
      refine (strconv_Itoa.calls 5 ⟨#[53]⟩ _ HI.out).mono ?_
      rintro e w' ⟨rfl, n0, rfl⟩
      refine ⟨_, rfl, ?_⟩
      refine hK.out _ _ (ev_all (EvAt.drewN (EvAt.drew hev) n0)) (fun hHeld => ?_)
      clear hK K
      refine norm_ (a' := ?_) ?_ ?_
      rotate_left
      · show Act.put _ (some 21) _ = _
        simp only [Act.put, List.setIfInBounds_toArray, List.set_cons_zero, List.set_cons_succ]
        rfl
      refine pure_ (i := 3) (N := some 22) (v := ?_) (a' := ?_) #[true, true, true, true, true, true, false, false, true, true, false, false, false, true, true, false, false, false, false] rfl rfl (by kernel_rfl) (fun _ _ _ h => h) (Or.inl ⟨by rfl, ?_⟩) ?_ ?_
      rotate_left
      · intro w'
        go_simp
        with_reducible rfl
      rotate_left
      · simp only [Act.put, List.setIfInBounds_toArray, List.set_cons_zero, List.set_cons_succ]
        rfl
      refine pure_ (i := 6) (N := some 25) (v := ?_) (a' := ?_) #[true, true, true, true, true, true, true, false, true, true, false, false, false, true, true, false, false, false, false] rfl rfl (by kernel_rfl) (fun _ _ _ h => h) (Or.inl ⟨by rfl, ?_⟩) ?_ ?_
      rotate_left
      · intro w'
        go_simp
        with_reducible rfl
      rotate_left
      · simp only [Act.put, List.setIfInBounds_toArray, List.set_cons_zero, List.set_cons_succ]
        rfl
      refine pure_ (i := 7) (N := some 26) (v := ?_) (a' := ?_) #[true, true, true, true, true, true, true, true, true, true, false, false, false, true, true, false, false, false, false] rfl rfl (by kernel_rfl) (fun _ _ _ h => h) (Or.inl ⟨by rfl, ?_⟩) ?_ ?_
      rotate_left
      · intro w'
        go_simp
        with_reducible rfl
      rotate_left
      · simp only [Act.put, List.setIfInBounds_toArray, List.set_cons_zero, List.set_cons_succ]
        rfl
      refine pure_ (i := 10) (N := some 29) (v := ?_) (a' := ?_) #[true, true, true, true, true, true, true, true, true, true, true, false, false, true, true, false, false, false, false] rfl rfl (by kernel_rfl) (fun _ _ _ h => h) (Or.inl ⟨by rfl, ?_⟩) ?_ ?_
      rotate_left
      · intro w'
        go_simp
        with_reducible rfl
      rotate_left
      · simp only [Act.put, List.setIfInBounds_toArray, List.set_cons_zero, List.set_cons_succ]
        rfl
      refine pure_ (i := 11) (N := some 30) (v := ?_) (a' := ?_) #[true, true, true, true, true, true, true, true, true, true, true, true, false, true, true, false, false, false, false] rfl rfl (by kernel_rfl) (fun _ _ _ h => h) (Or.inl ⟨by rfl, ?_⟩) ?_ ?_
      rotate_left
      · intro w'
        go_simp
        with_reducible rfl
      rotate_left
      · simp only [Act.put, List.setIfInBounds_toArray, List.set_cons_zero, List.set_cons_succ]
        rfl
      refine one_ (i := 12) (N := some 31) #[true, true, true, true, true, true, true, true, true, true, true, true, true, true, true, false, false, false, false] rfl rfl (by kernel_rfl) (by decide) (fun K hK => ?_)
      refine goes_ Tryz.func43 (by kernel_rfl) rfl #[] (by rfl) rfl rfl (by (try simp only [List.map_toArray, List.map_cons, List.map_nil]); first | done | rfl) ?_
      refine (portal_kindWords.calls _ _ HK.out).mono ?_
      rintro e w2 ⟨v, rfl, hr, hb⟩
      have hev2 : EvAt wr.heap.size w2 := EvAt.below (EvAt.drewN (EvAt.drew hev) n0) hb
      have ht2 : TextI w w1.heap.size [] w2 := TextI.below (TextI.drewN (TextI.drew hti) n0) hb
      obtain ⟨g2, c2, hv, hc2, x6⟩ := words_row hr
      subst hv
      clear hr hb
      refine ⟨_, rfl, ?_⟩
      refine hK.out _ _ (ev_all hev2) (fun hHeld => ?_)
      clear hK K
      refine norm_ (a' := ?_) ?_ ?_
      rotate_left
      · show Act.put _ (some 31) _ = _
        simp only [Act.put, List.setIfInBounds_toArray, List.set_cons_zero, List.set_cons_succ]
        rfl
      refine pure_ (i := 15) (N := some 34) (v := ?_) (a' := ?_) #[true, true, true, true, true, true, true, true, true, true, true, true, true, true, true, true, false, false, false] rfl rfl (by kernel_rfl) (fun _ _ _ h => h) (Or.inl ⟨by rfl, ?_⟩) ?_ ?_
      rotate_left
      · intro w'
        go_simp
        with_reducible rfl
      rotate_left
      · simp only [Act.put, List.setIfInBounds_toArray, List.set_cons_zero, List.set_cons_succ]
        rfl
      refine one_ (i := 16) (N := some 35) #[true, true, true, true, true, true, true, true, true, true, true, true, true, true, true, true, true, false, false] rfl rfl (by kernel_rfl) (by decide) (fun K hK => ?_)
      have x6' := x6
      refine value_ (w1 := w2) (v := .string ⟨#[101, 110, 100]⟩) (by rfl) rfl (by go_simp) ?_
      refine hK.out _ _ (ev_all hev2) (fun hHeld => ?_)
      clear hK K
      refine norm_ (a' := ?_) ?_ ?_
      rotate_left
      · show Act.put _ (some 35) _ = _
        simp only [Act.put, List.setIfInBounds_toArray, List.set_cons_zero, List.set_cons_succ]
        rfl
      refine pure_ (i := 17) (N := some 36) (v := ?_) (a' := ?_) #[true, true, true, true, true, true, true, true, true, true, true, true, true, true, true, true, true, true, false] rfl rfl (by kernel_rfl) (fun _ _ _ h => h) (Or.inl ⟨by rfl, ?_⟩) ?_ ?_
      rotate_left
      · intro w'
        go_simp
        with_reducible rfl
      rotate_left
      · simp only [Act.put, List.setIfInBounds_toArray, List.set_cons_zero, List.set_cons_succ]
        rfl
      refine one_ (i := 18) (N := some 37) #[true, true, true, true, true, true, true, true, true, true, true, true, true, true, true, true, true, true, true] rfl rfl (by kernel_rfl) (by decide) (fun K hK => ?_)
      refine goes_ Tryz.func42 (by kernel_rfl) rfl #[.pointer (some ⟨w1.heap.size, 0, none⟩), .string ((⟨#[53]⟩ : ByteArray) ++ ⟨#[32]⟩ ++ ⟨#[97]⟩ ++ ⟨#[32]⟩ ++ ⟨#[112]⟩ ++ ⟨#[32]⟩ ++ ⟨#[101, 110, 100]⟩)] (by rfl) rfl rfl (by (try simp only [List.map_toArray, List.map_cons, List.map_nil]); first | done | rfl) ?_
      refine (text_string w w1.heap.size [] _ _ ht2 (by decide)).mono ?_
      rintro e w3 ⟨rfl, ht3, ho3⟩
      have hev3 : EvAt wr.heap.size w3 := ho3 _ _ hev2 hne (by simp [evObj])
      refine ⟨_, rfl, ?_⟩
      refine hK.out _ _ (ev_all hev3) (fun hHeld => ?_)
      clear hK K
      refine norm_ (a' := ?_) ?_ ?_
      rotate_left
      · show Act.put _ (some 37) _ = _
        simp only [Act.put, List.setIfInBounds_toArray, List.set_cons_zero, List.set_cons_succ]
        rfl
      refine done_ (by kernel_rfl) ?_
      have y3 : w3.cell? ⟨wr.heap.size, 3, none⟩ = some (.int .i64 6) := blk_cell hev3 3
      go_wp2_with fail
      refine (text_byte w _ _ 10 _ ht3 (by decide)).mono ?_
      rintro e w4 ⟨rfl, ht4, ho4⟩
      go_wp2_with fail
      go_roundw
      case rel => exact ⟨1, by omega, rfl, ht4⟩
      case measure => simp [intOf]
      --END
    · obtain rfl : j = 1 := by omega
      have HTI := Lib.hid hti
      clear hti
      go_wp2_with fail
      refine (text_done w _ _ _ HTI.out (by simp)).mono ?_
      rintro e w4 ⟨rfl, hb4⟩
      go_wp2_with fail
      go_ret2
      exact ⟨rfl, hb4⟩
end Go.Proofs.YthgjnpmebjlecaaGreatDoor.Ext
/- The machine's side, printed by a program of this session: each Go function named below comes to the Lean function of its name; conditions: those of each theorem. -/
namespace Go.Proofs.YthgjnpmebjlecaaGreatDoor.P
open Go.RowKit Go.Proofs.YthgjnpmebjlecaaGreatDoorW.PrintWords Go.Proofs.YthgjnpmebjlecaaGreatDoorW.PrintLast Go.Proofs.YthgjnpmebjlecaaGreatDoorW.PrintMore
attribute [local go_sem] max2_int min2_int max_two min_two max_three min_three max_four min_four   -- for this text's walks alone
set_option linter.unusedVariables false
set_option linter.unusedSimpArgs false

/-! ### strings_HasPrefix: function 56 -/
def strings_HasPrefix.f (a0 : ByteArray) (a1 : ByteArray) : Option (Bool) := (stringslite_HasPrefix.f a0 a1).bind fun t197 => (some t197)
set_option maxHeartbeats 8000000 in
set_option maxRecDepth 100000 in
theorem strings_HasPrefix.calls (a0 : ByteArray) (a1 : ByteArray) (r : Bool) (w : World) (h : strings_HasPrefix.f a0 a1 = some r) :
    Calls Tryz.prog 56 #[.string a0, .string a1] w fun e w' => e = .returned (.bool r) ∧ Drawn0 w w' := by
  have H : ((stringslite_HasPrefix.f a0 a1).bind fun t197 => (some t197)) = some r := h
  clear h
  replace H := Option.bind_eq_some_iff.mp H
  obtain ⟨t197, A30, H⟩ := H
  replace H : (some t197) = some r := H
  have A3 := Aside0.mk A30
  clear A30
  obtain rfl := Option.some.inj H
  go_enter Tryz.func56, Tryz.ntmps56
  go_wp2_with (first | ((with_reducible refine gate_callee (f := 89) rfl ?_); refine goesL_ (some 7) rfl rfl Tryz.func89 (by kernel_rfl) rfl #[.string a0, .string a1] rfl (by (try simp only [List.map_toArray, List.map_cons, List.map_nil]); first | done | rfl | (simp only [List.length_drop, List.length_take]; rfl)) ?_; (with_reducible refine (stringslite_HasPrefix.calls a0 a1 t197 _ A3.out).mono ?_); rintro e w' ⟨rfl, ⟨nd, rfl⟩⟩; refine ⟨_, rfl, ?_⟩))
  go_ret
  exact ⟨by first | rfl | (simp; done) | (simp [*]; done), by repeat (first | exact Drawn0.refl _ | apply Drawn0.step)⟩

end Go.Proofs.YthgjnpmebjlecaaGreatDoor.P
/- The machine's side, printed by a program of this session: each Go function named below comes to the Lean function of its name; conditions: those of each theorem. -/
namespace Go.Proofs.YthgjnpmebjlecaaGreatDoor.P
open Go.RowKit Go.Proofs.YthgjnpmebjlecaaGreatDoorW.PrintWords Go.Proofs.YthgjnpmebjlecaaGreatDoorW.PrintLast Go.Proofs.YthgjnpmebjlecaaGreatDoorW.PrintMore
attribute [local go_sem] max2_int min2_int max_two min_two max_three min_three max_four min_four   -- for this text's walks alone
set_option linter.unusedVariables false
set_option linter.unusedSimpArgs false

/-! ### message_PathFault: function 35 -/
def message_PathFault.f (k : Nat) (a0 : ByteArray) : Option (Int) := if (a0.size : Int) > 1000 then (some 3) else ((strings_HasPrefix.f a0 (⟨#[47]⟩ : ByteArray)).bind fun t198 => (if t198 = true then ((message_isRange.f k a0 33 126).bind fun t199 => (if t199 = true then ((Ext.strings_ContainsAny.f a0 (⟨#[63, 35]⟩ : ByteArray)).bind fun t200 => (if t200 = true then (some 3) else (some 0))) else (some 3))) else (some 3)))
theorem message_PathFault.mono : ∀ a0 k, LeO (message_PathFault.f k a0) (message_PathFault.f (k + 1) a0) := by
  intro a0 k
  unfold message_PathFault.f
  repeat' first
      | (with_reducible exact message_isRange.mono _ _ _ _)
      | (with_reducible exact LeO.refl _)
      | (with_reducible exact LeO.none _)
      | (with_reducible refine LeO.ite ?_ ?_)
      | (with_reducible refine LeO.bind ?_ (fun _ => ?_))
      | exact message_isRange.mono _ _ _ _
      | exact LeO.none _
      | refine LeO.ite ?_ ?_
      | refine LeO.bind ?_ (fun _ => ?_)
set_option maxHeartbeats 8000000 in
set_option maxRecDepth 100000 in
theorem message_PathFault.calls (k : Nat) (a0 : ByteArray) (r : Int) (w : World) (h : message_PathFault.f k a0 = some r) :
    Calls Tryz.prog 35 #[.string a0] w fun e w' => e = .returned (.int .i64 r) ∧ Below w.heap.size w w' := by
  have HB := Aside0.mk (Below.refl w.heap.size w)
  have H : (if (a0.size : Int) > 1000 then (some 3) else ((strings_HasPrefix.f a0 (⟨#[47]⟩ : ByteArray)).bind fun t198 => (if t198 = true then ((message_isRange.f k a0 33 126).bind fun t199 => (if t199 = true then ((Ext.strings_ContainsAny.f a0 (⟨#[63, 35]⟩ : ByteArray)).bind fun t200 => (if t200 = true then (some 3) else (some 0))) else (some 3))) else (some 3)))) = some r := h
  clear h
  by_cases c2 : (a0.size : Int) > 1000
  · rw [if_pos c2] at H
    have c2b0 : decide (1000 < (a0.size : Int)) = true := decide_eq_true c2
    have c2b1 : decide (1000 < a0.size) = true := decide_eq_true (by omega)
    clear c2
    obtain rfl := Option.some.inj H
    go_enter Tryz.func35, Tryz.ntmps35
    go_wp2
    go_ret
    exact ⟨by first | rfl | (simp [errW_none, errW_some] <;> rfl) | (simp [*, errW_none, errW_some] <;> rfl), by repeat (first | (with_reducible first | exact HB.out | apply below_alloc | apply pw_below_drewN | apply below_drew1) | exact HB.out)⟩
  · rw [if_neg c2] at H
    have c2b0 : decide (1000 < (a0.size : Int)) = false := decide_eq_false c2
    have c2b1 : decide (1000 < a0.size) = false := decide_eq_false (by omega)
    clear c2
    replace H := Option.bind_eq_some_iff.mp H
    obtain ⟨t198, A30, H⟩ := H
    replace H : (if t198 = true then ((message_isRange.f k a0 33 126).bind fun t199 => (if t199 = true then ((Ext.strings_ContainsAny.f a0 (⟨#[63, 35]⟩ : ByteArray)).bind fun t200 => (if t200 = true then (some 3) else (some 0))) else (some 3))) else (some 3)) = some r := H
    have A3 := Aside0.mk A30
    clear A30
    by_cases c4 : t198 = true
    · subst c4
      have H1 : ((message_isRange.f k a0 33 126).bind fun t199 => (if t199 = true then ((Ext.strings_ContainsAny.f a0 (⟨#[63, 35]⟩ : ByteArray)).bind fun t200 => (if t200 = true then (some 3) else (some 0))) else (some 3))) = some r := by rw [if_pos rfl] at H; exact H
      clear H
      have H := H1
      clear H1
      replace H := Option.bind_eq_some_iff.mp H
      obtain ⟨t199, A50, H⟩ := H
      replace H : (if t199 = true then ((Ext.strings_ContainsAny.f a0 (⟨#[63, 35]⟩ : ByteArray)).bind fun t200 => (if t200 = true then (some 3) else (some 0))) else (some 3)) = some r := H
      have A5 := Aside0.mk A50
      clear A50
      by_cases c6 : t199 = true
      · subst c6
        have H1 : ((Ext.strings_ContainsAny.f a0 (⟨#[63, 35]⟩ : ByteArray)).bind fun t200 => (if t200 = true then (some 3) else (some 0))) = some r := by rw [if_pos rfl] at H; exact H
        clear H
        have H := H1
        clear H1
        replace H := Option.bind_eq_some_iff.mp H
        obtain ⟨t200, A70, H⟩ := H
        replace H : (if t200 = true then (some 3) else (some 0)) = some r := H
        have A7 := Aside0.mk A70
        clear A70
        by_cases c8 : t200 = true
        · subst c8
          have H1 : (some 3) = some r := by rw [if_pos rfl] at H; exact H
          clear H
          have H := H1
          clear H1
          obtain rfl := Option.some.inj H
          go_enter Tryz.func35, Tryz.ntmps35
          go_wp2_with (first | (go_at_call 56; (with_reducible refine (strings_HasPrefix.calls a0 (⟨#[47]⟩ : ByteArray) true _ A3.out).mono ?_); rintro e w' ⟨rfl, ⟨nd, rfl⟩⟩) | (go_at_call 57; (with_reducible refine (message_isRange.calls k a0 33 126 true _ A5.out).mono ?_); rintro e w' ⟨rfl, ⟨nd, rfl⟩⟩) | (go_at_call 58; (with_reducible refine (Ext.strings_ContainsAny.calls a0 (⟨#[63, 35]⟩ : ByteArray) true _ A7.out).mono ?_); rintro e w9 ⟨rfl, hb⟩; have n0_ := Aside0.mk (below_step (by repeat (first | (with_reducible first | exact HB.out | apply below_alloc | apply pw_below_drewN | apply below_drew1) | exact HB.out)) hb); clear HB; have HB := n0_; clear n0_; (try clear hb); (try clear hb2); (try clear hk); (try clear hi)))
          go_ret
          exact ⟨by first | rfl | (simp [errW_none, errW_some] <;> rfl) | (simp [*, errW_none, errW_some] <;> rfl), by repeat (first | (with_reducible first | exact HB.out | apply below_alloc | apply pw_below_drewN | apply below_drew1) | exact HB.out)⟩
        · replace c8 := Bool.eq_false_iff.mpr c8
          subst c8
          have H1 : (some 0) = some r := by rw [if_neg (show ¬ (false = true) by decide)] at H; exact H
          clear H
          have H := H1
          clear H1
          obtain rfl := Option.some.inj H
          go_enter Tryz.func35, Tryz.ntmps35
          go_wp2_with (first | (go_at_call 56; (with_reducible refine (strings_HasPrefix.calls a0 (⟨#[47]⟩ : ByteArray) true _ A3.out).mono ?_); rintro e w' ⟨rfl, ⟨nd, rfl⟩⟩) | (go_at_call 57; (with_reducible refine (message_isRange.calls k a0 33 126 true _ A5.out).mono ?_); rintro e w' ⟨rfl, ⟨nd, rfl⟩⟩) | (go_at_call 58; (with_reducible refine (Ext.strings_ContainsAny.calls a0 (⟨#[63, 35]⟩ : ByteArray) false _ A7.out).mono ?_); rintro e w10 ⟨rfl, hb⟩; have n0_ := Aside0.mk (below_step (by repeat (first | (with_reducible first | exact HB.out | apply below_alloc | apply pw_below_drewN | apply below_drew1) | exact HB.out)) hb); clear HB; have HB := n0_; clear n0_; (try clear hb); (try clear hb2); (try clear hk); (try clear hi)))
          go_ret
          exact ⟨by first | rfl | (simp [errW_none, errW_some] <;> rfl) | (simp [*, errW_none, errW_some] <;> rfl), by repeat (first | (with_reducible first | exact HB.out | apply below_alloc | apply pw_below_drewN | apply below_drew1) | exact HB.out)⟩
      · replace c6 := Bool.eq_false_iff.mpr c6
        subst c6
        have H1 : (some 3) = some r := by rw [if_neg (show ¬ (false = true) by decide)] at H; exact H
        clear H
        have H := H1
        clear H1
        obtain rfl := Option.some.inj H
        go_enter Tryz.func35, Tryz.ntmps35
        go_wp2_with (first | (go_at_call 56; (with_reducible refine (strings_HasPrefix.calls a0 (⟨#[47]⟩ : ByteArray) true _ A3.out).mono ?_); rintro e w' ⟨rfl, ⟨nd, rfl⟩⟩) | (go_at_call 57; (with_reducible refine (message_isRange.calls k a0 33 126 false _ A5.out).mono ?_); rintro e w' ⟨rfl, ⟨nd, rfl⟩⟩))
        go_ret
        exact ⟨by first | rfl | (simp [errW_none, errW_some] <;> rfl) | (simp [*, errW_none, errW_some] <;> rfl), by repeat (first | (with_reducible first | exact HB.out | apply below_alloc | apply pw_below_drewN | apply below_drew1) | exact HB.out)⟩
    · replace c4 := Bool.eq_false_iff.mpr c4
      subst c4
      have H1 : (some 3) = some r := by rw [if_neg (show ¬ (false = true) by decide)] at H; exact H
      clear H
      have H := H1
      clear H1
      obtain rfl := Option.some.inj H
      go_enter Tryz.func35, Tryz.ntmps35
      go_wp2_with (first | (go_at_call 56; (with_reducible refine (strings_HasPrefix.calls a0 (⟨#[47]⟩ : ByteArray) false _ A3.out).mono ?_); rintro e w' ⟨rfl, ⟨nd, rfl⟩⟩))
      go_ret
      exact ⟨by first | rfl | (simp [errW_none, errW_some] <;> rfl) | (simp [*, errW_none, errW_some] <;> rfl), by repeat (first | (with_reducible first | exact HB.out | apply below_alloc | apply pw_below_drewN | apply below_drew1) | exact HB.out)⟩

end Go.Proofs.YthgjnpmebjlecaaGreatDoor.P
/- message.normalUnits hands back a string without a percent sign as it is; condition: the string is shorter than 2^45 bytes and bears no percent sign (else nothing is said). -/
namespace Go.Proofs.YthgjnpmebjlecaaGreatDoor.Ext
open Go.RowKit

def normalUnits.f (s : ByteArray) : Option (ByteArray × Bool) := if s.size ≤ 35184372088832 ∧ s.data.toList.all (fun b => b != 37) = true then some (s, true) else none
theorem bytes_snoc (s : ByteArray) (k : Nat) (h : k < s.size) : Lib.byteCells (s.data.toList.take (k + 1)) = Lib.byteCells (s.data.toList.take k) ++ [.int .u8 (s[k].toNat : Int)] := by
  rw [List.take_succ_eq_append_getElem (by simpa using h), Lib.byteCells_append]; rfl
theorem bytes_all (s : ByteArray) (k : Nat) (h : ¬ k < s.size) : s.data.toList.take k = s.data.toList := List.take_of_length_le (by simp; omega)
set_option maxHeartbeats 1000000 in
theorem normalUnits.calls (a0 : ByteArray) (r1 : ByteArray) (r2 : Bool) (w : World) (h : normalUnits.f a0 = some (r1, r2)) :
    Calls Tryz.prog 36 #[.string a0] w fun e w' => e = .returned (.tuple #[.string r1, .bool r2]) ∧ Below w.heap.size w w' := by
  unfold normalUnits.f at h
  split at h
  · rename_i h1
    obtain ⟨hs, hall⟩ := h1
    cases h
    have hno : ∀ k (hk : k < a0.size), ((a0[k].toNat : Int) != 37) = true := fun k hk => by
      have := List.all_eq_true.1 hall (a0[k]) (by show a0.data[k] ∈ _; simp)
      rw [bne_iff_ne] at this ⊢
      intro e
      apply this
      apply UInt8.toNat_inj.1
      have e2 : (37 : UInt8).toNat = 37 := rfl
      rw [e2]; omega
    have H := Lib.hid hno
    clear hno hall
    go_enter Tryz.func36, Tryz.ntmps36
    go_wp2
    go_loopw [5] (fun i wr => ∃ k : Nat, k ≤ a0.size ∧ i = .int .i64 k ∧ Lib.IsBuilder 93 5 w.heap.size w.heap.size (Lib.byteCells (a0.data.toList.take k)) wr ∧ Below w.heap.size w wr) (fun i _ => a0.size - (intOf i).toNat)
    case atStart => exact ⟨0, Nat.zero_le _, rfl, Lib.fresh_isBuilder 93 5 w, (Below.refl _ w).alloc (Nat.le_refl _) _⟩
    case round =>
      obtain ⟨k, hk, rfl, hI, hbw⟩ := hrel
      have hsz := hbw.size
      by_cases hlt : k < a0.size
      · have hc := H.out k hlt
        have hlen : (Lib.byteCells (a0.data.toList.take k)).length + 1 ≤ 140737488355328 := by rw [Lib.byteCells_length, List.length_take]; omega
        go_wp2_with (go_at_call 44; refine (Tryz.Builder_WriteByte w.heap.size w.heap.size _ _ _ hI hlen hsz).mono ?_)
        rintro e W1 ⟨rfl, h1, b1⟩
        go_wp2
        go_roundw
        case rel => exact ⟨k + 1, by omega, by go_num, by rw [bytes_snoc a0 k hlt]; exact Or.inr h1, hbw.trans b1⟩
        case measure => simp [intOf]; omega
      · go_wp2_with (go_at_call 45; refine (Tryz.Builder_String_any w.heap.size w.heap.size (a0.data.toList.take k) _ hI hsz).mono ?_)
        rintro e W1 ⟨rfl, b1⟩
        go_wp2
        go_ret2
        rw [bytes_all a0 k hlt]
        exact ⟨rfl, hbw.trans b1⟩
  · cases h
end Go.Proofs.YthgjnpmebjlecaaGreatDoor.Ext
/- The machine's side, printed by a program of this session: each Go function named below comes to the Lean function of its name; conditions: those of each theorem. -/
namespace Go.Proofs.YthgjnpmebjlecaaGreatDoor.P
open Go.RowKit Go.Proofs.YthgjnpmebjlecaaGreatDoorW.PrintWords Go.Proofs.YthgjnpmebjlecaaGreatDoorW.PrintLast Go.Proofs.YthgjnpmebjlecaaGreatDoorW.PrintMore
attribute [local go_sem] max2_int min2_int max_two min_two max_three min_three max_four min_four   -- for this text's walks alone
set_option linter.unusedVariables false
set_option linter.unusedSimpArgs false

/-! ### message_NormalPath: function 20 -/
def message_NormalPath.l0 : Nat → List ByteArray → List ByteArray → List ByteArray → Int → Int → Option (ByteArray × Int)
  | 0, _, _, _, _, _ => none
  | k + 1, x6, x7, x25, x26, x27 => if x27 < x26 then (if 0 ≤ x27 then (if x27 < (x25.length : Int) then (if (rdOf ByteArray.empty x25 x27).toList = ([46] : List UInt8) then (if x27 = (wrap64 ((x7.length : Int) - 1)) then (if x6.length < 8796093022208 then (message_NormalPath.l0 k (x6 ++ [(⟨#[]⟩ : ByteArray)]) x7 x25 x26 (wrap64 (x27 + 1))) else (none)) else (message_NormalPath.l0 k x6 x7 x25 x26 (wrap64 (x27 + 1)))) else (if (rdOf ByteArray.empty x25 x27).toList = ([46, 46] : List UInt8) then (if 0 ≤ (mx (wrap64 ((x6.length : Int) - 1)) 0) then (if (mx (wrap64 ((x6.length : Int) - 1)) 0) ≤ (x6.length : Int) then ((some (x6.take ((mx (wrap64 ((x6.length : Int) - 1)) 0) : Int).toNat : List ByteArray)).bind fun y232 => (if x27 = (wrap64 ((x7.length : Int) - 1)) then (if y232.length < 8796093022208 then (message_NormalPath.l0 k (y232 ++ [(⟨#[]⟩ : ByteArray)]) x7 x25 x26 (wrap64 (x27 + 1))) else (none)) else (message_NormalPath.l0 k y232 x7 x25 x26 (wrap64 (x27 + 1))))) else (none)) else (none)) else (if x6.length < 8796093022208 then (message_NormalPath.l0 k (x6 ++ [rdOf ByteArray.empty x25 x27]) x7 x25 x26 (wrap64 (x27 + 1))) else (none)))) else (none)) else (none)) else ((Ext.strings_Join.f x6 (⟨#[47]⟩ : ByteArray)).bind fun t227 => (if 1 + t227.size ≤ 9223372036854775807 then (some ((⟨#[47]⟩ : ByteArray) ++ t227, 0)) else (none)))
def message_NormalPath.f (k : Nat) (a0 : ByteArray) : Option (ByteArray × Int) := (message_PathFault.f k a0).bind fun t221 => (if t221 = 0 then ((Ext.normalUnits.f a0).bind fun bt222 => (if bt222.2 = true then (if 1 ≤ (bt222.1.size : Int) then ((strings_Split.f k (bt222.1.extract 1 bt222.1.size) (⟨#[47]⟩ : ByteArray)).bind fun t224 => (message_NormalPath.l0 k ([] : List ByteArray) t224 t224 (t224.length : Int) 0)) else (none)) else (some ((⟨#[]⟩ : ByteArray), 9)))) else (some ((⟨#[]⟩ : ByteArray), t221)))
theorem message_NormalPath.mono_l : ∀ k, (∀ y0 y1 y2 y3 y4, LeO (message_NormalPath.l0 k y0 y1 y2 y3 y4) (message_NormalPath.l0 (k + 1) y0 y1 y2 y3 y4))
  | 0 => fun _ _ _ _ _ r h => by simp [message_NormalPath.l0] at h
  | k + 1 => by
    have ih0 := message_NormalPath.mono_l k
    · intro y0 y1 y2 y3 y4
      unfold message_NormalPath.l0
      repeat' first
      | (with_reducible exact ih0 _ _ _ _ _)
      | (with_reducible exact message_PathFault.mono _ _)
      | (with_reducible exact strings_Split.mono _ _ _)
      | (with_reducible exact LeO.refl _)
      | (with_reducible exact LeO.none _)
      | (with_reducible refine LeO.ite ?_ ?_)
      | (with_reducible refine LeO.bind ?_ (fun _ => ?_))
      | exact ih0 _ _ _ _ _
      | exact message_PathFault.mono _ _
      | exact strings_Split.mono _ _ _
      | exact LeO.none _
      | refine LeO.ite ?_ ?_
      | refine LeO.bind ?_ (fun _ => ?_)
theorem message_NormalPath.mono : ∀ a0 k, LeO (message_NormalPath.f k a0) (message_NormalPath.f (k + 1) a0) := by
  intro a0 k
  have ih0 := message_NormalPath.mono_l k
  unfold message_NormalPath.f
  repeat' first
      | (with_reducible exact ih0 _ _ _ _ _)
      | (with_reducible exact message_PathFault.mono _ _)
      | (with_reducible exact strings_Split.mono _ _ _)
      | (with_reducible exact LeO.refl _)
      | (with_reducible exact LeO.none _)
      | (with_reducible refine LeO.ite ?_ ?_)
      | (with_reducible refine LeO.bind ?_ (fun _ => ?_))
      | exact ih0 _ _ _ _ _
      | exact message_PathFault.mono _ _
      | exact strings_Split.mono _ _ _
      | exact LeO.none _
      | refine LeO.ite ?_ ?_
      | refine LeO.bind ?_ (fun _ => ?_)
set_option maxHeartbeats 8000000 in
set_option maxRecDepth 100000 in
theorem message_NormalPath.calls (k : Nat) (a0 : ByteArray) (r1 : ByteArray) (r2 : Int) (w : World) (h : message_NormalPath.f k a0 = some (r1, r2)) :
    Calls Tryz.prog 20 #[.string a0] w fun e w' => e = .returned (.tuple #[.string r1, .int .i64 r2]) ∧ Below w.heap.size w w' := by
  have HB := Aside0.mk (Below.refl w.heap.size w)
  have H : ((message_PathFault.f k a0).bind fun t221 => (if t221 = 0 then ((Ext.normalUnits.f a0).bind fun bt222 => (if bt222.2 = true then (if 1 ≤ (bt222.1.size : Int) then ((strings_Split.f k (bt222.1.extract 1 bt222.1.size) (⟨#[47]⟩ : ByteArray)).bind fun t224 => (message_NormalPath.l0 k ([] : List ByteArray) t224 t224 (t224.length : Int) 0)) else (none)) else (some ((⟨#[]⟩ : ByteArray), 9)))) else (some ((⟨#[]⟩ : ByteArray), t221)))) = some (r1, r2) := h
  clear h
  replace H := Option.bind_eq_some_iff.mp H
  obtain ⟨t221, A20, H⟩ := H
  replace H : (if t221 = 0 then ((Ext.normalUnits.f a0).bind fun bt222 => (if bt222.2 = true then (if 1 ≤ (bt222.1.size : Int) then ((strings_Split.f k (bt222.1.extract 1 bt222.1.size) (⟨#[47]⟩ : ByteArray)).bind fun t224 => (message_NormalPath.l0 k ([] : List ByteArray) t224 t224 (t224.length : Int) 0)) else (none)) else (some ((⟨#[]⟩ : ByteArray), 9)))) else (some ((⟨#[]⟩ : ByteArray), t221))) = some (r1, r2) := H
  have A2 := Aside0.mk A20
  clear A20
  by_cases c3 : t221 = 0
  · rw [if_pos c3] at H
    have c3b0 : (t221 == 0) = true := beq_iff_eq.mpr c3
    have c3b1 : (t221 != 0) = false := bne_eq_false_iff_eq.mpr c3
    clear c3
    replace H := Option.bind_eq_some_iff.mp H
    obtain ⟨⟨t222, t223⟩, A40, H⟩ := H
    replace H : (if t223 = true then (if 1 ≤ (t222.size : Int) then ((strings_Split.f k (t222.extract 1 t222.size) (⟨#[47]⟩ : ByteArray)).bind fun t224 => (message_NormalPath.l0 k ([] : List ByteArray) t224 t224 (t224.length : Int) 0)) else (none)) else (some ((⟨#[]⟩ : ByteArray), 9))) = some (r1, r2) := H
    have A4 := Aside0.mk A40
    clear A40
    by_cases c5 : t223 = true
    · subst c5
      have H1 : (if 1 ≤ (t222.size : Int) then ((strings_Split.f k (t222.extract 1 t222.size) (⟨#[47]⟩ : ByteArray)).bind fun t224 => (message_NormalPath.l0 k ([] : List ByteArray) t224 t224 (t224.length : Int) 0)) else (none)) = some (r1, r2) := by rw [if_pos rfl] at H; exact H
      clear H
      have H := H1
      clear H1
      by_cases c6 : 1 ≤ (t222.size : Int)
      · rw [if_pos c6] at H
        have c6b0 := eq_true c6
        have c6b1 : decide (1 ≤ (t222.size : Int)) = true := decide_eq_true c6
        clear c6
        replace H := Option.bind_eq_some_iff.mp H
        obtain ⟨t224, A70, H⟩ := H
        replace H : (message_NormalPath.l0 k ([] : List ByteArray) t224 t224 (t224.length : Int) 0) = some (r1, r2) := H
        have A7 := Aside0.mk A70
        clear A70
        have H' := Aside0.mk H
        clear H
        go_enter Tryz.func20, Tryz.ntmps20
        go_wp2_with (first | ((with_reducible refine gate_callee (f := 35) rfl ?_); refine goesL_ (some 11) rfl rfl Tryz.func35 (by kernel_rfl) rfl #[.string a0] rfl (by (try simp only [List.map_toArray, List.map_cons, List.map_nil]); first | done | rfl | (simp only [List.length_drop, List.length_take]; rfl)) ?_; (with_reducible refine (message_PathFault.calls k a0 t221 _ A2.out).mono ?_); rintro e w8 ⟨rfl, hb⟩; refine ⟨_, rfl, ?_⟩; have n0_ := Aside0.mk (below_step (by repeat (first | (with_reducible first | exact HB.out | apply below_alloc | apply pw_below_drewN | apply below_drew1) | exact HB.out)) hb); clear HB; have HB := n0_; clear n0_; (try clear hb); (try clear hb2); (try clear hk); (try clear hi)) | ((with_reducible refine gate_callee (f := 36) rfl ?_); refine goesL_ (some 17) rfl rfl Tryz.func36 (by kernel_rfl) rfl #[.string a0] rfl (by (try simp only [List.map_toArray, List.map_cons, List.map_nil]); first | done | rfl | (simp only [List.length_drop, List.length_take]; rfl)) ?_; (with_reducible refine (Ext.normalUnits.calls a0 t222 true _ A4.out).mono ?_); rintro e w9 ⟨rfl, hb⟩; refine ⟨_, rfl, ?_⟩; have n0_ := Aside0.mk (below_step (by repeat (first | (with_reducible first | exact HB.out | apply below_alloc | apply pw_below_drewN | apply below_drew1) | exact HB.out)) hb); clear HB; have HB := n0_; clear n0_; (try clear hb); (try clear hb2); (try clear hk); (try clear hi)) | ((with_reducible refine gate_callee (f := 37) rfl ?_); refine goesL_ (some 24) rfl rfl Tryz.func37 (by kernel_rfl) rfl #[.string (t222.extract 1 t222.size), .string (⟨#[47]⟩ : ByteArray)] rfl (by (try simp only [List.map_toArray, List.map_cons, List.map_nil]); first | done | rfl | (simp only [List.length_drop, List.length_take]; rfl)) ?_; (with_reducible refine (strings_Split.calls k (t222.extract 1 t222.size) (⟨#[47]⟩ : ByteArray) t224 _ A7.out).mono ?_); rintro e w10 ⟨v225, rfl, ho0, hb⟩; refine ⟨_, rfl, ?_⟩; have n0_ := Aside0.mk (Kd.R_lower ho0 (below_size (by repeat (first | (with_reducible first | exact HB.out | apply below_alloc | apply pw_below_drewN | apply below_drew1) | exact HB.out)))); have n1_ := Aside0.mk (below_step (by repeat (first | (with_reducible first | exact HB.out | apply below_alloc | apply pw_below_drewN | apply below_drew1) | exact HB.out)) hb); clear HB; have HO226 := n0_; have HB := n1_; clear n0_ n1_; (try clear hb); (try clear hb2); (try clear hk); (try clear hi); (try clear ho0); obtain ⟨Ao11, co11, eo11⟩ := Kd.R_slice HO226.out; subst eo11))
        go_loopg [6, 27] k (fun kq v6 v27 w' => ∃ (x6_1 : List ByteArray) (x27_1 : Int), v27 = .int .i64 x27_1 ∧ Aside0 (message_NormalPath.l0 kq x6_1 t224 t224 (t224.length : Int) x27_1 = some (r1, r2)) ∧ Aside0 (kq ≤ k) ∧ Aside0 (Kd.R Kd.string 9 w' w.heap.size (fun k_ => some k_ ≠ ((.slice Ao11 t224.length co11) : Value).ownBlock ∧ some k_ ≠ ((.slice Ao11 t224.length co11) : Value).ownBlock) v6 x6_1) ∧ Aside0 (Kd.R Kd.string 9 w' w.heap.size (fun k_ => some k_ ≠ (v6 : Value).ownBlock) (.slice Ao11 t224.length co11) t224) ∧ Aside0 (Kd.R Kd.string 9 w' w.heap.size (fun k_ => some k_ ≠ (v6 : Value).ownBlock) (.slice Ao11 t224.length co11) t224) ∧ Aside0 (Below w.heap.size w w'))
        case atStart => exact ⟨(([] : List ByteArray)), (0), (by first | rfl | (simp; done) | (simp [*]; done)), H', ⟨Nat.le_refl _⟩, ⟨by first | exact Kd.R_nil _ _ _ _ _ | exact Kd.N_nil _ _ _ _ _ | exact Kd.V_nil _ _ _ _ _ | exact Kd.Q_nil _ _ _ _ _ | exact Kd.S_nil _ _ _ _ _⟩, ⟨by (with_reducible repeat (first | apply Kd.R_alloc | apply Kd.R_drewN | apply Kd.R_drew)); exact Kd.R_mono HO226.out (fun _ hk => (by simp [Value.ownBlock]))⟩, ⟨by (with_reducible repeat (first | apply Kd.R_alloc | apply Kd.R_drewN | apply Kd.R_drew)); exact Kd.R_mono HO226.out (fun _ hk => (by simp [Value.ownBlock]))⟩, ⟨by repeat (first | (with_reducible first | exact HB.out | apply below_alloc | apply pw_below_drewN | apply below_drew1) | exact HB.out)⟩⟩
        case round =>
          clear H'
          try clear c2
          try clear p2
          try clear c3
          try clear c3b0
          try clear c3b1
          try clear c5
          try clear c6
          try clear c6b0
          try clear c6b1
          obtain ⟨x6_1, x27_1, rfl, HA, HK1, HO_6, HO_7, HO_25, HB⟩ := hrel
          cases gk with
          | zero => exact absurd HA.out (by simp [message_NormalPath.l0])
          | succ k1 =>
            have H := HA.out
            clear HA
            simp only [message_NormalPath.l0] at H
            by_cases c12 : x27_1 < (t224.length : Int)
            · rw [if_pos c12] at H
              have c12b0 : decide (x27_1 < (t224.length : Int)) = true := decide_eq_true c12
              clear c12
              by_cases c13 : 0 ≤ x27_1
              · rw [if_pos c13] at H
                have c13b0 : decide (0 ≤ x27_1) = true := decide_eq_true c13
                clear c13
                by_cases c14 : x27_1 < (t224.length : Int)
                · rw [if_pos c14] at H
                  have c14b0 : decide (x27_1 < (t224.length : Int)) = true := decide_eq_true c14
                  clear c14
                  by_cases c15 : (rdOf ByteArray.empty t224 x27_1).toList = ([46] : List UInt8)
                  · rw [if_pos c15] at H
                    have c15b0 : ((rdOf ByteArray.empty t224 x27_1).toList == ([46] : List UInt8)) = true := beq_iff_eq.mpr c15
                    have c15b1 : ((rdOf ByteArray.empty t224 x27_1).toList != ([46] : List UInt8)) = false := bne_eq_false_iff_eq.mpr c15
                    clear c15
                    by_cases c16 : x27_1 = (wrap64 ((t224.length : Int) - 1))
                    · rw [if_pos c16] at H
                      have c16b0 : (x27_1 == (wrap64 ((t224.length : Int) - 1))) = true := beq_iff_eq.mpr c16
                      (try have c16bu0 := (by have h_ := c16b0; simp (disch := omega) only [Go.Proofs.YthgjnpmebjlecaaGreatDoorXWords.wrap_in] at h_; exact h_))
                      have c16b1 : (x27_1 != (wrap64 ((t224.length : Int) - 1))) = false := bne_eq_false_iff_eq.mpr c16
                      (try have c16bu1 := (by have h_ := c16b1; simp (disch := omega) only [Go.Proofs.YthgjnpmebjlecaaGreatDoorXWords.wrap_in] at h_; exact h_))
                      clear c16
                      by_cases c17 : x6_1.length < 8796093022208
                      · rw [if_pos c17] at H
                        have LMc17 := Aside0.mk c17
                        clear c17
                        obtain ⟨y229, hy229⟩ : ∃ y_ : List ByteArray, y_ = (x6_1 ++ [(⟨#[]⟩ : ByteArray)]) := ⟨_, rfl⟩
                        replace H : (message_NormalPath.l0 k1 y229 t224 t224 (t224.length : Int) (wrap64 (x27_1 + 1))) = some (r1, r2) := by first | (rw [hy229]; with_reducible exact H) | (have H2_ := (Option.bind_some _ _).symm.trans H; rw [hy229]; with_reducible exact H2_) | (have H2_ := (Option.bind_some _ _).symm.trans H; with_reducible exact H2_) | with_reducible exact H | (rw [hy229]; exact H) | exact H
                        have Ny229 := Aside0.mk hy229
                        clear hy229
                        have H' := Aside0.mk H
                        clear H
                        have p228 : 0 ≤ (x27_1 : Int) := of_decide_eq_true (by first | (with_reducible assumption) | assumption)
                        have q228 : x27_1 < (t224.length : Int) := of_decide_eq_true (by first | (with_reducible assumption) | assumption)
                        obtain ⟨ad228, e228, hx228_0⟩ := Kd.at_string (Kd.R_reads' HO_25.out).2.2 x27_1 p228 q228
                        cases e228
                        replace p228 := eq_true p228
                        replace q228 := eq_true q228
                        go_wp2_with (first | ((with_reducible refine gate_builtin (b := .append) (xs := #[.tmp 52, .tmp 53]) rfl ?_); at_builtin; refine Kd.R_append Kd.string (w0 := w) w.heap.size rfl (.tmp 52) (.tmp 53) 30 9 (.string ⟨#[]⟩) 16 rfl Tryz.underlying30 info9 rfl (by decide) (by omega) u6 x6_1 (⟨#[]⟩ : ByteArray) [.string (⟨#[]⟩ : ByteArray)] (fun k_ => some k_ ≠ (.slice (some ad228) t224.length co11 : Value).ownBlock ∧ some k_ ≠ (.slice (some ad228) t224.length co11 : Value).ownBlock) (fun _ => False) rfl rfl ?aP (fun _ hk => hk.elim) ?aF ?aO ?aB ?aS ?aL ?_; (case aP => exact rfl); (case aB => exact (by repeat (first | (with_reducible first | exact HB.out | apply below_alloc | apply pw_below_drewN | apply below_drew1) | exact HB.out))); (case aF => exact (fun k_ hk => ⟨Kd.fresh' (Kd.R_lt (by (with_reducible repeat (first | apply Kd.R_alloc | apply Kd.R_drewN | apply Kd.R_drew)); exact HO_7.out)) k_ hk, Kd.fresh' (Kd.R_lt (by (with_reducible repeat (first | apply Kd.R_alloc | apply Kd.R_drewN | apply Kd.R_drew)); exact HO_25.out)) k_ hk⟩)); (case aO => exact (by (with_reducible repeat (first | apply Kd.R_alloc | apply Kd.R_drewN | apply Kd.R_drew)); exact HO_6.out)); (case aS => exact (below_size (by repeat (first | (with_reducible first | exact HB.out | apply below_alloc | apply pw_below_drewN | apply below_drew1) | exact HB.out)))); (case aL => have := LMc17.out; omega); intro v230 w18 ho hb hg hat; rw [← Ny229.out] at ho; have n0_ := Aside0.mk (Kd.R_after (ok := (fun _ => True)) (by (with_reducible repeat (first | apply Kd.R_alloc | apply Kd.R_drewN | apply Kd.R_drew)); exact Kd.R_mono HO_7.out (fun _ hk => ⟨trivial, hk⟩)) hg hat); have n1_ := Aside0.mk (Kd.R_after (ok := (fun _ => True)) (by (with_reducible repeat (first | apply Kd.R_alloc | apply Kd.R_drewN | apply Kd.R_drew)); exact Kd.R_mono HO_25.out (fun _ hk => ⟨trivial, hk⟩)) hg hat); have n2_ := Aside0.mk (hb); have n3_ := Aside0.mk (ho); clear HO_7; clear HO_25; clear HB; clear HO_6; have HO_7 := n0_; have HO_25 := n1_; have HB := n2_; have HO231 := n3_; clear n0_ n1_ n2_ n3_; clear ho hb hg hat))
                        go_roundg k1
                        case measure => have := HK1.out; omega
                        case rel => exact ⟨(y229), (wrap64 (x27_1 + 1)), (by first | rfl | (simp; done) | (simp [*]; done)), H', ⟨by have := HK1.out; omega⟩, ⟨by (with_reducible repeat (first | apply Kd.R_alloc | apply Kd.R_drewN | apply Kd.R_drew)); exact HO231.out⟩, ⟨by (with_reducible repeat (first | apply Kd.R_alloc | apply Kd.R_drewN | apply Kd.R_drew)); exact Kd.R_mono HO_7.out (fun _ hk => hk.2)⟩, ⟨by (with_reducible repeat (first | apply Kd.R_alloc | apply Kd.R_drewN | apply Kd.R_drew)); exact Kd.R_mono HO_25.out (fun _ hk => hk.2)⟩, ⟨by repeat (first | (with_reducible first | exact HB.out | apply below_alloc | apply pw_below_drewN | apply below_drew1) | exact HB.out)⟩⟩
                      · rw [if_neg c17] at H
                        exact absurd H (by simp)
                    · rw [if_neg c16] at H
                      have c16b0 : (x27_1 == (wrap64 ((t224.length : Int) - 1))) = false := beq_eq_false_iff_ne.mpr c16
                      (try have c16bu0 := (by have h_ := c16b0; simp (disch := omega) only [Go.Proofs.YthgjnpmebjlecaaGreatDoorXWords.wrap_in] at h_; exact h_))
                      have c16b1 : (x27_1 != (wrap64 ((t224.length : Int) - 1))) = true := bne_iff_ne.mpr c16
                      (try have c16bu1 := (by have h_ := c16b1; simp (disch := omega) only [Go.Proofs.YthgjnpmebjlecaaGreatDoorXWords.wrap_in] at h_; exact h_))
                      have H' := Aside0.mk H
                      clear H
                      have p228 : 0 ≤ (x27_1 : Int) := of_decide_eq_true (by first | (with_reducible assumption) | assumption)
                      have q228 : x27_1 < (t224.length : Int) := of_decide_eq_true (by first | (with_reducible assumption) | assumption)
                      obtain ⟨ad228, e228, hx228_0⟩ := Kd.at_string (Kd.R_reads' HO_25.out).2.2 x27_1 p228 q228
                      cases e228
                      replace p228 := eq_true p228
                      replace q228 := eq_true q228
                      go_wp2
                      go_roundg k1
                      case measure => have := HK1.out; omega
                      case rel => exact ⟨(x6_1), (wrap64 (x27_1 + 1)), (by first | rfl | (simp; done) | (simp [*]; done)), H', ⟨by have := HK1.out; omega⟩, ⟨by (with_reducible repeat (first | apply Kd.R_alloc | apply Kd.R_drewN | apply Kd.R_drew)); exact HO_6.out⟩, ⟨by (with_reducible repeat (first | apply Kd.R_alloc | apply Kd.R_drewN | apply Kd.R_drew)); exact HO_7.out⟩, ⟨by (with_reducible repeat (first | apply Kd.R_alloc | apply Kd.R_drewN | apply Kd.R_drew)); exact HO_25.out⟩, ⟨by repeat (first | (with_reducible first | exact HB.out | apply below_alloc | apply pw_below_drewN | apply below_drew1) | exact HB.out)⟩⟩
                  · rw [if_neg c15] at H
                    have c15b0 : ((rdOf ByteArray.empty t224 x27_1).toList == ([46] : List UInt8)) = false := beq_eq_false_iff_ne.mpr c15
                    have c15b1 : ((rdOf ByteArray.empty t224 x27_1).toList != ([46] : List UInt8)) = true := bne_iff_ne.mpr c15
                    by_cases c19 : (rdOf ByteArray.empty t224 x27_1).toList = ([46, 46] : List UInt8)
                    · rw [if_pos c19] at H
                      have c19b0 : ((rdOf ByteArray.empty t224 x27_1).toList == ([46, 46] : List UInt8)) = true := beq_iff_eq.mpr c19
                      have c19b1 : ((rdOf ByteArray.empty t224 x27_1).toList != ([46, 46] : List UInt8)) = false := bne_eq_false_iff_eq.mpr c19
                      clear c19
                      obtain ⟨ji20, hji20⟩ : ∃ j_ : Int, (mx (wrap64 ((x6_1.length : Int) - 1)) 0) = j_ := ⟨_, rfl⟩
                      replace H : (if 0 ≤ (ji20) then (if (ji20) ≤ (x6_1.length : Int) then ((some (x6_1.take ((ji20) : Int).toNat : List ByteArray)).bind fun y232 => (if x27_1 = (wrap64 ((t224.length : Int) - 1)) then (if y232.length < 8796093022208 then (message_NormalPath.l0 k1 (y232 ++ [(⟨#[]⟩ : ByteArray)]) t224 t224 (t224.length : Int) (wrap64 (x27_1 + 1))) else (none)) else (message_NormalPath.l0 k1 y232 t224 t224 (t224.length : Int) (wrap64 (x27_1 + 1))))) else (none)) else (none)) = some (r1, r2) := by first | (rw [hji20] at H; exact H) | (simp only [hji20] at H ⊢; exact H)
                      have hji20_ : (if (wrap64 ((x6_1.length : Int) - 1)) < 0 then 0 else (wrap64 ((x6_1.length : Int) - 1))) = ji20 := hji20
                      by_cases c21 : 0 ≤ (ji20)
                      · rw [if_pos c21] at H
                        have c21b0 := eq_true c21
                        have c21b1 : decide (0 ≤ (ji20)) = true := decide_eq_true c21
                        clear c21
                        by_cases c22 : (ji20) ≤ (x6_1.length : Int)
                        · rw [if_pos c22] at H
                          have c22b0 := eq_true c22
                          have c22b1 : decide ((ji20) ≤ (x6_1.length : Int)) = true := decide_eq_true c22
                          clear c22
                          obtain ⟨y232, hy232⟩ : ∃ y_ : List ByteArray, y_ = (x6_1.take ((ji20) : Int).toNat) := ⟨_, rfl⟩
                          replace H : (if x27_1 = (wrap64 ((t224.length : Int) - 1)) then (if y232.length < 8796093022208 then (message_NormalPath.l0 k1 (y232 ++ [(⟨#[]⟩ : ByteArray)]) t224 t224 (t224.length : Int) (wrap64 (x27_1 + 1))) else (none)) else (message_NormalPath.l0 k1 y232 t224 t224 (t224.length : Int) (wrap64 (x27_1 + 1)))) = some (r1, r2) := by first | (rw [hy232]; with_reducible exact H) | (have H2_ := (Option.bind_some _ _).symm.trans H; rw [hy232]; with_reducible exact H2_) | (have H2_ := (Option.bind_some _ _).symm.trans H; with_reducible exact H2_) | with_reducible exact H | (rw [hy232]; exact H) | exact H
                          have Ny232 := Aside0.mk hy232
                          clear hy232
                          by_cases c23 : x27_1 = (wrap64 ((t224.length : Int) - 1))
                          · rw [if_pos c23] at H
                            have c23b0 : (x27_1 == (wrap64 ((t224.length : Int) - 1))) = true := beq_iff_eq.mpr c23
                            (try have c23bu0 := (by have h_ := c23b0; simp (disch := omega) only [Go.Proofs.YthgjnpmebjlecaaGreatDoorXWords.wrap_in] at h_; exact h_))
                            have c23b1 : (x27_1 != (wrap64 ((t224.length : Int) - 1))) = false := bne_eq_false_iff_eq.mpr c23
                            (try have c23bu1 := (by have h_ := c23b1; simp (disch := omega) only [Go.Proofs.YthgjnpmebjlecaaGreatDoorXWords.wrap_in] at h_; exact h_))
                            clear c23
                            by_cases c24 : y232.length < 8796093022208
                            · rw [if_pos c24] at H
                              have LMc24 := Aside0.mk c24
                              clear c24
                              obtain ⟨y235, hy235⟩ : ∃ y_ : List ByteArray, y_ = (y232 ++ [(⟨#[]⟩ : ByteArray)]) := ⟨_, rfl⟩
                              replace H : (message_NormalPath.l0 k1 y235 t224 t224 (t224.length : Int) (wrap64 (x27_1 + 1))) = some (r1, r2) := by first | (rw [hy235]; with_reducible exact H) | (have H2_ := (Option.bind_some _ _).symm.trans H; rw [hy235]; with_reducible exact H2_) | (have H2_ := (Option.bind_some _ _).symm.trans H; with_reducible exact H2_) | with_reducible exact H | (rw [hy235]; exact H) | exact H
                              have Ny235 := Aside0.mk hy235
                              clear hy235
                              have H' := Aside0.mk H
                              clear H
                              have p228 : 0 ≤ (x27_1 : Int) := of_decide_eq_true (by first | (with_reducible assumption) | assumption)
                              have q228 : x27_1 < (t224.length : Int) := of_decide_eq_true (by first | (with_reducible assumption) | assumption)
                              obtain ⟨ad228, e228, hx228_0⟩ := Kd.at_string (Kd.R_reads' HO_25.out).2.2 x27_1 p228 q228
                              cases e228
                              replace p228 := eq_true p228
                              replace q228 := eq_true q228
                              obtain ⟨Ao25, co25, eo25⟩ := Kd.R_slice HO_6.out
                              subst eo25
                              have q26 : ((ji20) : Int) ≤ ((x6_1.length : Int) : Int) := of_decide_eq_true (by first | (with_reducible assumption) | assumption)
                              obtain ⟨i026, hi026, _, hsz26, _⟩ := info_parts info9
                              have hcut26 := cut_to (P := Tryz.prog) 30 9 .i64 Tryz.underlying30 hi026 Ao25 x6_1.length co25 (ji20) (of_decide_eq_true (by first | (with_reducible assumption) | assumption)) q26 (Kd.R_reads' HO_6.out).2.1
                              have hr26 := Kd.R_take (m := ((ji20) : Int).toNat) HO_6.out (by first | omega | (have e_ := (Kd.R_reads' HO_6.out).1; omega))
                              have hy26 : y232.length = ((ji20) : Int).toNat := (by have e_ := (Kd.R_reads' HO_6.out).1; rw [Ny232.out, List.length_take]; omega)
                              rw [← Ny232.out] at hr26
                              rw [← hy26] at hr26 hcut26
                              clear hy26 hi026 hsz26 HO_6
                              have HO234 := Aside0.mk hr26
                              clear hr26
                              replace q26 := eq_true q26
                              have n_ := Aside0.mk (Kd.R_mono (ok' := fun k_ => some k_ ≠ (.slice Ao25 y232.length co25 : Value).ownBlock) HO_7.out (fun _ hk_ => by first | exact hk_ | (simpa only [Go.Proofs.YthgjnpmebjlecaaGreatDoorXWords.ownB_slice] using hk_)))
                              clear HO_7
                              have HO_7 := n_
                              clear n_
                              have n_ := Aside0.mk (Kd.R_mono (ok' := fun k_ => some k_ ≠ (.slice Ao25 y232.length co25 : Value).ownBlock) HO_25.out (fun _ hk_ => by first | exact hk_ | (simpa only [Go.Proofs.YthgjnpmebjlecaaGreatDoorXWords.ownB_slice] using hk_)))
                              clear HO_25
                              have HO_25 := n_
                              clear n_
                              go_wp2_with (first | ((with_reducible refine gate_builtin (b := .append) (xs := #[.tmp 52, .tmp 53]) rfl ?_); at_builtin; refine Kd.R_append Kd.string (w0 := w) w.heap.size rfl (.tmp 52) (.tmp 53) 30 9 (.string ⟨#[]⟩) 16 rfl Tryz.underlying30 info9 rfl (by decide) (by omega) (.slice Ao25 y232.length co25) y232 (⟨#[]⟩ : ByteArray) [.string (⟨#[]⟩ : ByteArray)] (fun k_ => some k_ ≠ (.slice (some ad228) t224.length co11 : Value).ownBlock ∧ some k_ ≠ (.slice (some ad228) t224.length co11 : Value).ownBlock) (fun _ => False) rfl rfl ?aP (fun _ hk => hk.elim) ?aF ?aO ?aB ?aS ?aL ?_; (case aP => exact rfl); (case aB => exact (by repeat (first | (with_reducible first | exact HB.out | apply below_alloc | apply pw_below_drewN | apply below_drew1) | exact HB.out))); (case aF => exact (fun k_ hk => ⟨Kd.fresh' (Kd.R_lt (by (with_reducible repeat (first | apply Kd.R_alloc | apply Kd.R_drewN | apply Kd.R_drew)); exact HO_7.out)) k_ hk, Kd.fresh' (Kd.R_lt (by (with_reducible repeat (first | apply Kd.R_alloc | apply Kd.R_drewN | apply Kd.R_drew)); exact HO_25.out)) k_ hk⟩)); (case aO => exact (by (with_reducible repeat (first | apply Kd.R_alloc | apply Kd.R_drewN | apply Kd.R_drew)); exact HO234.out)); (case aS => exact (below_size (by repeat (first | (with_reducible first | exact HB.out | apply below_alloc | apply pw_below_drewN | apply below_drew1) | exact HB.out)))); (case aL => have := LMc24.out; omega); intro v236 w27 ho hb hg hat; rw [← Ny235.out] at ho; have n0_ := Aside0.mk (Kd.R_after (ok := (fun _ => True)) (by (with_reducible repeat (first | apply Kd.R_alloc | apply Kd.R_drewN | apply Kd.R_drew)); exact Kd.R_mono HO_7.out (fun _ hk => ⟨trivial, hk⟩)) hg hat); have n1_ := Aside0.mk (Kd.R_after (ok := (fun _ => True)) (by (with_reducible repeat (first | apply Kd.R_alloc | apply Kd.R_drewN | apply Kd.R_drew)); exact Kd.R_mono HO_25.out (fun _ hk => ⟨trivial, hk⟩)) hg hat); have n2_ := Aside0.mk (hb); have n3_ := Aside0.mk (ho); clear HO_7; clear HO_25; clear HB; clear HO234; have HO_7 := n0_; have HO_25 := n1_; have HB := n2_; have HO237 := n3_; clear n0_ n1_ n2_ n3_; clear ho hb hg hat))
                              go_roundg k1
                              case measure => have := HK1.out; omega
                              case rel => exact ⟨(y235), (wrap64 (x27_1 + 1)), (by first | rfl | (simp; done) | (simp [*]; done)), H', ⟨by have := HK1.out; omega⟩, ⟨by (with_reducible repeat (first | apply Kd.R_alloc | apply Kd.R_drewN | apply Kd.R_drew)); exact HO237.out⟩, ⟨by (with_reducible repeat (first | apply Kd.R_alloc | apply Kd.R_drewN | apply Kd.R_drew)); exact Kd.R_mono HO_7.out (fun _ hk => hk.2)⟩, ⟨by (with_reducible repeat (first | apply Kd.R_alloc | apply Kd.R_drewN | apply Kd.R_drew)); exact Kd.R_mono HO_25.out (fun _ hk => hk.2)⟩, ⟨by repeat (first | (with_reducible first | exact HB.out | apply below_alloc | apply pw_below_drewN | apply below_drew1) | exact HB.out)⟩⟩
                            · rw [if_neg c24] at H
                              exact absurd H (by simp)
                          · rw [if_neg c23] at H
                            have c23b0 : (x27_1 == (wrap64 ((t224.length : Int) - 1))) = false := beq_eq_false_iff_ne.mpr c23
                            (try have c23bu0 := (by have h_ := c23b0; simp (disch := omega) only [Go.Proofs.YthgjnpmebjlecaaGreatDoorXWords.wrap_in] at h_; exact h_))
                            have c23b1 : (x27_1 != (wrap64 ((t224.length : Int) - 1))) = true := bne_iff_ne.mpr c23
                            (try have c23bu1 := (by have h_ := c23b1; simp (disch := omega) only [Go.Proofs.YthgjnpmebjlecaaGreatDoorXWords.wrap_in] at h_; exact h_))
                            have H' := Aside0.mk H
                            clear H
                            have p228 : 0 ≤ (x27_1 : Int) := of_decide_eq_true (by first | (with_reducible assumption) | assumption)
                            have q228 : x27_1 < (t224.length : Int) := of_decide_eq_true (by first | (with_reducible assumption) | assumption)
                            obtain ⟨ad228, e228, hx228_0⟩ := Kd.at_string (Kd.R_reads' HO_25.out).2.2 x27_1 p228 q228
                            cases e228
                            replace p228 := eq_true p228
                            replace q228 := eq_true q228
                            obtain ⟨Ao28, co28, eo28⟩ := Kd.R_slice HO_6.out
                            subst eo28
                            have q29 : ((ji20) : Int) ≤ ((x6_1.length : Int) : Int) := of_decide_eq_true (by first | (with_reducible assumption) | assumption)
                            obtain ⟨i029, hi029, _, hsz29, _⟩ := info_parts info9
                            have hcut29 := cut_to (P := Tryz.prog) 30 9 .i64 Tryz.underlying30 hi029 Ao28 x6_1.length co28 (ji20) (of_decide_eq_true (by first | (with_reducible assumption) | assumption)) q29 (Kd.R_reads' HO_6.out).2.1
                            have hr29 := Kd.R_take (m := ((ji20) : Int).toNat) HO_6.out (by first | omega | (have e_ := (Kd.R_reads' HO_6.out).1; omega))
                            have hy29 : y232.length = ((ji20) : Int).toNat := (by have e_ := (Kd.R_reads' HO_6.out).1; rw [Ny232.out, List.length_take]; omega)
                            rw [← Ny232.out] at hr29
                            rw [← hy29] at hr29 hcut29
                            clear hy29 hi029 hsz29 HO_6
                            have HO234 := Aside0.mk hr29
                            clear hr29
                            replace q29 := eq_true q29
                            have n_ := Aside0.mk (Kd.R_mono (ok' := fun k_ => some k_ ≠ (.slice Ao28 y232.length co28 : Value).ownBlock) HO_7.out (fun _ hk_ => by first | exact hk_ | (simpa only [Go.Proofs.YthgjnpmebjlecaaGreatDoorXWords.ownB_slice] using hk_)))
                            clear HO_7
                            have HO_7 := n_
                            clear n_
                            have n_ := Aside0.mk (Kd.R_mono (ok' := fun k_ => some k_ ≠ (.slice Ao28 y232.length co28 : Value).ownBlock) HO_25.out (fun _ hk_ => by first | exact hk_ | (simpa only [Go.Proofs.YthgjnpmebjlecaaGreatDoorXWords.ownB_slice] using hk_)))
                            clear HO_25
                            have HO_25 := n_
                            clear n_
                            go_wp2
                            go_roundg k1
                            case measure => have := HK1.out; omega
                            case rel => exact ⟨(y232), (wrap64 (x27_1 + 1)), (by first | rfl | (simp; done) | (simp [*]; done)), H', ⟨by have := HK1.out; omega⟩, ⟨by (with_reducible repeat (first | apply Kd.R_alloc | apply Kd.R_drewN | apply Kd.R_drew)); exact HO234.out⟩, ⟨by (with_reducible repeat (first | apply Kd.R_alloc | apply Kd.R_drewN | apply Kd.R_drew)); exact HO_7.out⟩, ⟨by (with_reducible repeat (first | apply Kd.R_alloc | apply Kd.R_drewN | apply Kd.R_drew)); exact HO_25.out⟩, ⟨by repeat (first | (with_reducible first | exact HB.out | apply below_alloc | apply pw_below_drewN | apply below_drew1) | exact HB.out)⟩⟩
                        · rw [if_neg c22] at H
                          exact absurd H (by simp)
                      · rw [if_neg c21] at H
                        exact absurd H (by simp)
                    · rw [if_neg c19] at H
                      have c19b0 : ((rdOf ByteArray.empty t224 x27_1).toList == ([46, 46] : List UInt8)) = false := beq_eq_false_iff_ne.mpr c19
                      have c19b1 : ((rdOf ByteArray.empty t224 x27_1).toList != ([46, 46] : List UInt8)) = true := bne_iff_ne.mpr c19
                      by_cases c30 : x6_1.length < 8796093022208
                      · rw [if_pos c30] at H
                        have LMc30 := Aside0.mk c30
                        clear c30
                        obtain ⟨y238, hy238⟩ : ∃ y_ : List ByteArray, y_ = (x6_1 ++ [rdOf ByteArray.empty t224 x27_1]) := ⟨_, rfl⟩
                        replace H : (message_NormalPath.l0 k1 y238 t224 t224 (t224.length : Int) (wrap64 (x27_1 + 1))) = some (r1, r2) := by first | (rw [hy238]; with_reducible exact H) | (have H2_ := (Option.bind_some _ _).symm.trans H; rw [hy238]; with_reducible exact H2_) | (have H2_ := (Option.bind_some _ _).symm.trans H; with_reducible exact H2_) | with_reducible exact H | (rw [hy238]; exact H) | exact H
                        have Ny238 := Aside0.mk hy238
                        clear hy238
                        have H' := Aside0.mk H
                        clear H
                        have p228 : 0 ≤ (x27_1 : Int) := of_decide_eq_true (by first | (with_reducible assumption) | assumption)
                        have q228 : x27_1 < (t224.length : Int) := of_decide_eq_true (by first | (with_reducible assumption) | assumption)
                        obtain ⟨ad228, e228, hx228_0⟩ := Kd.at_string (Kd.R_reads' HO_25.out).2.2 x27_1 p228 q228
                        cases e228
                        replace p228 := eq_true p228
                        replace q228 := eq_true q228
                        go_wp2_with (first | ((with_reducible refine gate_builtin (b := .append) (xs := #[.tmp 33, .tmp 35]) rfl ?_); at_builtin; refine Kd.R_append Kd.string (w0 := w) w.heap.size rfl (.tmp 33) (.tmp 35) 30 9 (.string ⟨#[]⟩) 16 rfl Tryz.underlying30 info9 rfl (by decide) (by omega) u6 x6_1 (rdOf ByteArray.empty t224 x27_1) [.string (rdOf ByteArray.empty t224 x27_1)] (fun k_ => some k_ ≠ (.slice (some ad228) t224.length co11 : Value).ownBlock ∧ some k_ ≠ (.slice (some ad228) t224.length co11 : Value).ownBlock) (fun _ => False) rfl rfl ?aP (fun _ hk => hk.elim) ?aF ?aO ?aB ?aS ?aL ?_; (case aP => exact rfl); (case aB => exact (by repeat (first | (with_reducible first | exact HB.out | apply below_alloc | apply pw_below_drewN | apply below_drew1) | exact HB.out))); (case aF => exact (fun k_ hk => ⟨Kd.fresh' (Kd.R_lt (by (with_reducible repeat (first | apply Kd.R_alloc | apply Kd.R_drewN | apply Kd.R_drew)); exact HO_7.out)) k_ hk, Kd.fresh' (Kd.R_lt (by (with_reducible repeat (first | apply Kd.R_alloc | apply Kd.R_drewN | apply Kd.R_drew)); exact HO_25.out)) k_ hk⟩)); (case aO => exact (by (with_reducible repeat (first | apply Kd.R_alloc | apply Kd.R_drewN | apply Kd.R_drew)); exact HO_6.out)); (case aS => exact (below_size (by repeat (first | (with_reducible first | exact HB.out | apply below_alloc | apply pw_below_drewN | apply below_drew1) | exact HB.out)))); (case aL => have := LMc30.out; omega); intro v239 w31 ho hb hg hat; rw [← Ny238.out] at ho; have n0_ := Aside0.mk (Kd.R_after (ok := (fun _ => True)) (by (with_reducible repeat (first | apply Kd.R_alloc | apply Kd.R_drewN | apply Kd.R_drew)); exact Kd.R_mono HO_7.out (fun _ hk => ⟨trivial, hk⟩)) hg hat); have n1_ := Aside0.mk (Kd.R_after (ok := (fun _ => True)) (by (with_reducible repeat (first | apply Kd.R_alloc | apply Kd.R_drewN | apply Kd.R_drew)); exact Kd.R_mono HO_25.out (fun _ hk => ⟨trivial, hk⟩)) hg hat); have n2_ := Aside0.mk (hb); have n3_ := Aside0.mk (ho); clear HO_7; clear HO_25; clear HB; clear HO_6; have HO_7 := n0_; have HO_25 := n1_; have HB := n2_; have HO240 := n3_; clear n0_ n1_ n2_ n3_; clear ho hb hg hat))
                        go_roundg k1
                        case measure => have := HK1.out; omega
                        case rel => exact ⟨(y238), (wrap64 (x27_1 + 1)), (by first | rfl | (simp; done) | (simp [*]; done)), H', ⟨by have := HK1.out; omega⟩, ⟨by (with_reducible repeat (first | apply Kd.R_alloc | apply Kd.R_drewN | apply Kd.R_drew)); exact HO240.out⟩, ⟨by (with_reducible repeat (first | apply Kd.R_alloc | apply Kd.R_drewN | apply Kd.R_drew)); exact Kd.R_mono HO_7.out (fun _ hk => hk.2)⟩, ⟨by (with_reducible repeat (first | apply Kd.R_alloc | apply Kd.R_drewN | apply Kd.R_drew)); exact Kd.R_mono HO_25.out (fun _ hk => hk.2)⟩, ⟨by repeat (first | (with_reducible first | exact HB.out | apply below_alloc | apply pw_below_drewN | apply below_drew1) | exact HB.out)⟩⟩
                      · rw [if_neg c30] at H
                        exact absurd H (by simp)
                · rw [if_neg c14] at H
                  exact absurd H (by simp)
              · rw [if_neg c13] at H
                exact absurd H (by simp)
            · rw [if_neg c12] at H
              have c12b0 : decide (x27_1 < (t224.length : Int)) = false := decide_eq_false c12
              clear c12
              replace H := Option.bind_eq_some_iff.mp H
              obtain ⟨t227, A320, H⟩ := H
              replace H : (if 1 + t227.size ≤ 9223372036854775807 then (some ((⟨#[47]⟩ : ByteArray) ++ t227, 0)) else (none)) = some (r1, r2) := H
              have A32 := Aside0.mk A320
              clear A320
              by_cases c33 : 1 + t227.size ≤ 9223372036854775807
              · rw [if_pos c33] at H
                have c33b0 := eq_true c33
                have c33b1 : decide (1 + t227.size ≤ 9223372036854775807) = true := decide_eq_true c33
                try have c33b2 : (9223372036854775807 < 1 + t227.size) = False := eq_false (Nat.not_lt.2 c33)
                simp only [Option.some.injEq, Prod.mk.injEq] at H
                obtain ⟨rfl, rfl⟩ := H
                obtain ⟨Ao34, co34, eo34⟩ := Kd.R_slice HO_6.out
                subst eo34
                go_wp2_with (first | ((with_reducible refine gate_callee (f := 31) rfl ?_); refine goesL_ (some 57) rfl rfl Tryz.func31 (by kernel_rfl) rfl #[.slice Ao34 x6_1.length co34, .string (⟨#[47]⟩ : ByteArray)] rfl (by (try simp only [List.map_toArray, List.map_cons, List.map_nil]); first | done | rfl | (simp only [List.length_drop, List.length_take]; rfl)) ?_; (with_reducible refine (Ext.strings_Join.calls _ _ x6_1 (⟨#[47]⟩ : ByteArray) t227 _ ?side1 ?side2 A32.out).mono ?_); (case side1 => repeat (first | exact (Kd.R_reads' HO_6.out).2.2 | (with_reducible refine Kd.C_alloc ?_ _) | (with_reducible refine Kd.C_drewN ?_ _) | (with_reducible refine Kd.C_drew ?_))); (case side2 => exact (Kd.R_reads' HO_6.out).2.1); rintro e w35 ⟨rfl, hb⟩; refine ⟨_, rfl, ?_⟩; have n0_ := Aside0.mk (Kd.R_below (by (with_reducible repeat (first | apply Kd.R_alloc | apply Kd.R_drewN | apply Kd.R_drew)); exact HO_6.out) hb); have n1_ := Aside0.mk (Kd.R_below (by (with_reducible repeat (first | apply Kd.R_alloc | apply Kd.R_drewN | apply Kd.R_drew)); exact HO_7.out) hb); have n2_ := Aside0.mk (Kd.R_below (by (with_reducible repeat (first | apply Kd.R_alloc | apply Kd.R_drewN | apply Kd.R_drew)); exact HO_25.out) hb); have n3_ := Aside0.mk (below_step (by repeat (first | (with_reducible first | exact HB.out | apply below_alloc | apply pw_below_drewN | apply below_drew1) | exact HB.out)) hb); clear HO_6; clear HO_7; clear HO_25; clear HB; have HO_6 := n0_; have HO_7 := n1_; have HO_25 := n2_; have HB := n3_; clear n0_ n1_ n2_ n3_; (try clear hb); (try clear hb2); (try clear hk); (try clear hi)))
                go_ret2
                exact ⟨by first | rfl | (simp [errW_none, errW_some] <;> rfl) | (simp [*, errW_none, errW_some] <;> rfl), by repeat (first | (with_reducible first | exact HB.out | apply below_alloc | apply pw_below_drewN | apply below_drew1) | exact HB.out)⟩
              · rw [if_neg c33] at H
                exact absurd H (by simp)
      · rw [if_neg c6] at H
        exact absurd H (by simp)
    · replace c5 := Bool.eq_false_iff.mpr c5
      subst c5
      have H1 : (some ((⟨#[]⟩ : ByteArray), 9)) = some (r1, r2) := by rw [if_neg (show ¬ (false = true) by decide)] at H; exact H
      clear H
      have H := H1
      clear H1
      simp only [Option.some.injEq, Prod.mk.injEq] at H
      obtain ⟨rfl, rfl⟩ := H
      go_enter Tryz.func20, Tryz.ntmps20
      go_wp2_with (first | ((with_reducible refine gate_callee (f := 35) rfl ?_); refine goesL_ (some 11) rfl rfl Tryz.func35 (by kernel_rfl) rfl #[.string a0] rfl (by (try simp only [List.map_toArray, List.map_cons, List.map_nil]); first | done | rfl | (simp only [List.length_drop, List.length_take]; rfl)) ?_; (with_reducible refine (message_PathFault.calls k a0 t221 _ A2.out).mono ?_); rintro e w36 ⟨rfl, hb⟩; refine ⟨_, rfl, ?_⟩; have n0_ := Aside0.mk (below_step (by repeat (first | (with_reducible first | exact HB.out | apply below_alloc | apply pw_below_drewN | apply below_drew1) | exact HB.out)) hb); clear HB; have HB := n0_; clear n0_; (try clear hb); (try clear hb2); (try clear hk); (try clear hi)) | ((with_reducible refine gate_callee (f := 36) rfl ?_); refine goesL_ (some 17) rfl rfl Tryz.func36 (by kernel_rfl) rfl #[.string a0] rfl (by (try simp only [List.map_toArray, List.map_cons, List.map_nil]); first | done | rfl | (simp only [List.length_drop, List.length_take]; rfl)) ?_; (with_reducible refine (Ext.normalUnits.calls a0 t222 false _ A4.out).mono ?_); rintro e w37 ⟨rfl, hb⟩; refine ⟨_, rfl, ?_⟩; have n0_ := Aside0.mk (below_step (by repeat (first | (with_reducible first | exact HB.out | apply below_alloc | apply pw_below_drewN | apply below_drew1) | exact HB.out)) hb); clear HB; have HB := n0_; clear n0_; (try clear hb); (try clear hb2); (try clear hk); (try clear hi)))
      go_ret2
      exact ⟨by first | rfl | (simp [errW_none, errW_some] <;> rfl) | (simp [*, errW_none, errW_some] <;> rfl), by repeat (first | (with_reducible first | exact HB.out | apply below_alloc | apply pw_below_drewN | apply below_drew1) | exact HB.out)⟩
  · rw [if_neg c3] at H
    have c3b0 : (t221 == 0) = false := beq_eq_false_iff_ne.mpr c3
    have c3b1 : (t221 != 0) = true := bne_iff_ne.mpr c3
    simp only [Option.some.injEq, Prod.mk.injEq] at H
    obtain ⟨rfl, rfl⟩ := H
    go_enter Tryz.func20, Tryz.ntmps20
    go_wp2_with (first | ((with_reducible refine gate_callee (f := 35) rfl ?_); refine goesL_ (some 11) rfl rfl Tryz.func35 (by kernel_rfl) rfl #[.string a0] rfl (by (try simp only [List.map_toArray, List.map_cons, List.map_nil]); first | done | rfl | (simp only [List.length_drop, List.length_take]; rfl)) ?_; (with_reducible refine (message_PathFault.calls k a0 t221 _ A2.out).mono ?_); rintro e w38 ⟨rfl, hb⟩; refine ⟨_, rfl, ?_⟩; have n0_ := Aside0.mk (below_step (by repeat (first | (with_reducible first | exact HB.out | apply below_alloc | apply pw_below_drewN | apply below_drew1) | exact HB.out)) hb); clear HB; have HB := n0_; clear n0_; (try clear hb); (try clear hb2); (try clear hk); (try clear hi)))
    go_ret2
    exact ⟨by first | rfl | (simp [errW_none, errW_some] <;> rfl) | (simp [*, errW_none, errW_some] <;> rfl), by repeat (first | (with_reducible first | exact HB.out | apply below_alloc | apply pw_below_drewN | apply below_drew1) | exact HB.out)⟩

end Go.Proofs.YthgjnpmebjlecaaGreatDoor.P
/- The machine's side, printed by a program of this session: each Go function named below comes to the Lean function of its name; conditions: those of each theorem. -/
namespace Go.Proofs.YthgjnpmebjlecaaGreatDoor.P
open Go.RowKit Go.Proofs.YthgjnpmebjlecaaGreatDoorW.PrintWords Go.Proofs.YthgjnpmebjlecaaGreatDoorW.PrintLast Go.Proofs.YthgjnpmebjlecaaGreatDoorW.PrintMore
attribute [local go_sem] max2_int min2_int max_two min_two max_three min_three max_four min_four   -- for this text's walks alone
set_option linter.unusedVariables false
set_option linter.unusedSimpArgs false

/-! ### token_Encode: function 23 -/
mutual
def token_Encode.l0 : Nat → ByteArray → List Int → Option (ByteArray)
  | 0, _, _ => none
  | k + 1, x0, x3 => if (x0.size : Int) > 0 then (token_Encode.l1 k x0 x3 (mn 3 (x0.size : Int)) 0 0) else (some (strOfNums x3))
def token_Encode.l1 : Nat → ByteArray → List Int → Int → Int → Int → Option (ByteArray)
  | 0, _, _, _, _, _ => none
  | k + 1, x0, x3, x4, x5, x14 => if x14 < 3 then (if x14 < x4 then (if 0 ≤ x14 then (if x14 < (x0.size : Int) then (token_Encode.l1 k x0 x3 x4 (Go.bits .or .i64 (wrap64 (x5 * 256)) (wrap64 (bt x0 x14))) (wrap64 (x14 + 1))) else (none)) else (none)) else (token_Encode.l1 k x0 x3 x4 (wrap64 (x5 * 256)) (wrap64 (x14 + 1)))) else (token_Encode.l2 k x0 x3 x4 x5 (wrap64 (x4 + 1)) 0)
def token_Encode.l2 : Nat → ByteArray → List Int → Int → Int → Int → Int → Option (ByteArray)
  | 0, _, _, _, _, _, _ => none
  | k + 1, x0, x3, x4, x5, x30, x31 => if x31 < x30 then (if 0 ≤ (wrap64 (18 - (wrap64 (6 * x31)))) then (if 0 ≤ (Go.bits .and .i64 (shr .i64 x5 (wrap64 (18 - (wrap64 (6 * x31))))) 63) then (if (Go.bits .and .i64 (shr .i64 x5 (wrap64 (18 - (wrap64 (6 * x31))))) 63) < 64 then (if x3.length < 140737488355328 then (token_Encode.l2 k x0 (x3 ++ [bt (⟨#[65, 66, 67, 68, 69, 70, 71, 72, 73, 74, 75, 76, 77, 78, 79, 80, 81, 82, 83, 84, 85, 86, 87, 88, 89, 90, 97, 98, 99, 100, 101, 102, 103, 104, 105, 106, 107, 108, 109, 110, 111, 112, 113, 114, 115, 116, 117, 118, 119, 120, 121, 122, 48, 49, 50, 51, 52, 53, 54, 55, 56, 57, 45, 95]⟩ : ByteArray) (Go.bits .and .i64 (shr .i64 x5 (wrap64 (18 - (wrap64 (6 * x31))))) 63)]) x4 x5 x30 (wrap64 (x31 + 1))) else (none)) else (none)) else (none)) else (none)) else (if 0 ≤ x4 then (if x4 ≤ (x0.size : Int) then (token_Encode.l0 k (x0.extract (x4 : Int).toNat x0.size) x3) else (none)) else (none))
end
def token_Encode.f (k : Nat) (a0 : ByteArray) : Option (ByteArray) := token_Encode.l0 k a0 ([] : List Int)
theorem token_Encode.mono_l : ∀ k, (∀ y0 y1, LeO (token_Encode.l0 k y0 y1) (token_Encode.l0 (k + 1) y0 y1)) ∧ (∀ y0 y1 y2 y3 y4, LeO (token_Encode.l1 k y0 y1 y2 y3 y4) (token_Encode.l1 (k + 1) y0 y1 y2 y3 y4)) ∧ (∀ y0 y1 y2 y3 y4 y5, LeO (token_Encode.l2 k y0 y1 y2 y3 y4 y5) (token_Encode.l2 (k + 1) y0 y1 y2 y3 y4 y5))
  | 0 => ⟨fun _ _ r h => by simp [token_Encode.l0] at h, fun _ _ _ _ _ r h => by simp [token_Encode.l1] at h, fun _ _ _ _ _ _ r h => by simp [token_Encode.l2] at h⟩
  | k + 1 => by
    obtain ⟨ih0, ih1, ih2⟩ := token_Encode.mono_l k
    refine ⟨?_, ?_, ?_⟩
    · intro y0 y1
      unfold token_Encode.l0
      repeat' first
      | (with_reducible exact ih0 _ _)
      | (with_reducible exact ih1 _ _ _ _ _)
      | (with_reducible exact ih2 _ _ _ _ _ _)
      | (with_reducible exact LeO.refl _)
      | (with_reducible exact LeO.none _)
      | (with_reducible refine LeO.ite ?_ ?_)
      | (with_reducible refine LeO.bind ?_ (fun _ => ?_))
      | exact ih0 _ _
      | exact ih1 _ _ _ _ _
      | exact ih2 _ _ _ _ _ _
      | exact LeO.none _
      | refine LeO.ite ?_ ?_
      | refine LeO.bind ?_ (fun _ => ?_)
    · intro y0 y1 y2 y3 y4
      unfold token_Encode.l1
      repeat' first
      | (with_reducible exact ih0 _ _)
      | (with_reducible exact ih1 _ _ _ _ _)
      | (with_reducible exact ih2 _ _ _ _ _ _)
      | (with_reducible exact LeO.refl _)
      | (with_reducible exact LeO.none _)
      | (with_reducible refine LeO.ite ?_ ?_)
      | (with_reducible refine LeO.bind ?_ (fun _ => ?_))
      | exact ih0 _ _
      | exact ih1 _ _ _ _ _
      | exact ih2 _ _ _ _ _ _
      | exact LeO.none _
      | refine LeO.ite ?_ ?_
      | refine LeO.bind ?_ (fun _ => ?_)
    · intro y0 y1 y2 y3 y4 y5
      unfold token_Encode.l2
      repeat' first
      | (with_reducible exact ih0 _ _)
      | (with_reducible exact ih1 _ _ _ _ _)
      | (with_reducible exact ih2 _ _ _ _ _ _)
      | (with_reducible exact LeO.refl _)
      | (with_reducible exact LeO.none _)
      | (with_reducible refine LeO.ite ?_ ?_)
      | (with_reducible refine LeO.bind ?_ (fun _ => ?_))
      | exact ih0 _ _
      | exact ih1 _ _ _ _ _
      | exact ih2 _ _ _ _ _ _
      | exact LeO.none _
      | refine LeO.ite ?_ ?_
      | refine LeO.bind ?_ (fun _ => ?_)
theorem token_Encode.mono : ∀ a0 k, LeO (token_Encode.f k a0) (token_Encode.f (k + 1) a0) := by
  intro a0 k
  obtain ⟨ih0, ih1, ih2⟩ := token_Encode.mono_l k
  unfold token_Encode.f
  repeat' first
      | (with_reducible exact ih0 _ _)
      | (with_reducible exact ih1 _ _ _ _ _)
      | (with_reducible exact ih2 _ _ _ _ _ _)
      | (with_reducible exact LeO.refl _)
      | (with_reducible exact LeO.none _)
      | (with_reducible refine LeO.ite ?_ ?_)
      | (with_reducible refine LeO.bind ?_ (fun _ => ?_))
      | exact ih0 _ _
      | exact ih1 _ _ _ _ _
      | exact ih2 _ _ _ _ _ _
      | exact LeO.none _
      | refine LeO.ite ?_ ?_
      | refine LeO.bind ?_ (fun _ => ?_)
set_option maxHeartbeats 8000000 in
set_option maxRecDepth 100000 in
theorem token_Encode.calls (k : Nat) (a0 : ByteArray) (r : ByteArray) (w : World) (h : token_Encode.f k a0 = some r) :
    Calls Tryz.prog 23 #[.string a0] w fun e w' => e = .returned (.string r) ∧ Below w.heap.size w w' := by
  have HB := Aside0.mk (Below.refl w.heap.size w)
  have H : (token_Encode.l0 k a0 ([] : List Int)) = some r := h
  clear h
  have H' := Aside0.mk H
  clear H
  go_enter Tryz.func23, Tryz.ntmps23
  go_wp2
  go_loopg [0, 3] k (fun kq v0 v3 w' => ∃ (x0_1 : ByteArray) (x3_1 : List Int), v0 = .string x0_1 ∧ Aside0 (token_Encode.l0 kq x0_1 x3_1 = some r) ∧ Aside0 (kq ≤ k) ∧ Aside0 (Kd.R (Kd.int .u8) 5 w' w.heap.size (fun _ => True) v3 x3_1) ∧ Aside0 (Below w.heap.size w w'))
  case atStart => exact ⟨(a0), (([] : List Int)), (by first | rfl | (simp; done) | (simp [*]; done)), H', ⟨Nat.le_refl _⟩, ⟨by first | exact Kd.R_nil _ _ _ _ _ | exact Kd.N_nil _ _ _ _ _ | exact Kd.V_nil _ _ _ _ _ | exact Kd.Q_nil _ _ _ _ _ | exact Kd.S_nil _ _ _ _ _⟩, ⟨by repeat (first | (with_reducible first | exact HB.out | apply below_alloc | apply pw_below_drewN | apply below_drew1) | exact HB.out)⟩⟩
  case round =>
    clear H'
    obtain ⟨x0_1, x3_1, rfl, HA, HK1, HO_3, HB⟩ := hrel
    cases gk with
    | zero => exact absurd HA.out (by simp [token_Encode.l0])
    | succ k1 =>
      have H := HA.out
      clear HA
      simp only [token_Encode.l0] at H
      by_cases c2 : (x0_1.size : Int) > 0
      · rw [if_pos c2] at H
        have c2b0 : decide (0 < (x0_1.size : Int)) = true := decide_eq_true c2
        have c2b1 : decide (0 < x0_1.size) = true := decide_eq_true (by omega)
        clear c2
        obtain ⟨ji3, hji3⟩ : ∃ j_ : Int, (mn 3 (x0_1.size : Int)) = j_ := ⟨_, rfl⟩
        replace H : (token_Encode.l1 k1 x0_1 x3_1 ji3 0 0) = some r := by first | (rw [hji3] at H; exact H) | (simp only [hji3] at H ⊢; exact H)
        have hji3_ : (if (x0_1.size : Int) < 3 then (x0_1.size : Int) else 3) = ji3 := hji3
        have H' := Aside0.mk H
        clear H
        go_wp2
        go_loopg [5, 14] k1 (fun kq v5 v14 w' => ∃ (x5_2 : Int) (x14_2 : Int), v5 = .int .i64 x5_2 ∧ v14 = .int .i64 x14_2 ∧ Aside0 (token_Encode.l1 kq x0_1 x3_1 ji3 x5_2 x14_2 = some r) ∧ Aside0 (kq ≤ k1) ∧ Aside0 (Kd.R (Kd.int .u8) 5 w' w.heap.size (fun _ => True) u3 x3_1) ∧ Aside0 (Below w.heap.size w w'))
        case atStart => exact ⟨(0), (0), (by first | rfl | (simp; done) | (simp [*]; done)), (by first | rfl | (simp; done) | (simp [*]; done)), H', ⟨Nat.le_refl _⟩, ⟨by (with_reducible repeat (first | apply Kd.R_alloc | apply Kd.R_drewN | apply Kd.R_drew)); exact HO_3.out⟩, ⟨by repeat (first | (with_reducible first | exact HB.out | apply below_alloc | apply pw_below_drewN | apply below_drew1) | exact HB.out)⟩⟩
        case round =>
          clear H'
          try clear c2
          try clear c2b0
          try clear c2b1
          try clear p2
          obtain ⟨x5_2, x14_2, rfl, rfl, HA, HK2, HO_3, HB⟩ := hrel
          cases gk with
          | zero => exact absurd HA.out (by simp [token_Encode.l1])
          | succ k2 =>
            have H := HA.out
            clear HA
            simp only [token_Encode.l1] at H
            by_cases c4 : x14_2 < 3
            · rw [if_pos c4] at H
              have c4b0 : decide (x14_2 < 3) = true := decide_eq_true c4
              clear c4
              by_cases c5 : x14_2 < ji3
              · rw [if_pos c5] at H
                have c5b0 : decide (x14_2 < ji3) = true := decide_eq_true c5
                clear c5
                by_cases c6 : 0 ≤ x14_2
                · rw [if_pos c6] at H
                  have c6b0 : decide (0 ≤ x14_2) = true := decide_eq_true c6
                  clear c6
                  by_cases c7 : x14_2 < (x0_1.size : Int)
                  · rw [if_pos c7] at H
                    have c7b0 : decide (x14_2 < (x0_1.size : Int)) = true := decide_eq_true c7
                    clear c7
                    have H' := Aside0.mk H
                    clear H
                    have p8 : 0 ≤ (x14_2 : Int) := of_decide_eq_true (by first | (with_reducible assumption) | assumption)
                    have q8 : x14_2 < (x0_1.size : Int) := of_decide_eq_true (by first | (with_reducible assumption) | assumption)
                    have hx8 := bt_at x0_1 x14_2
                    replace p8 := eq_true p8
                    replace q8 := eq_true q8
                    go_wp2
                    go_roundg k2
                    case measure => have := HK1.out; have := HK2.out; omega
                    case rel => exact ⟨(Go.bits .or .i64 (wrap64 (x5_2 * 256)) (wrap64 (bt x0_1 x14_2))), (wrap64 (x14_2 + 1)), (by first | rfl | (simp; done) | (simp [*]; done)), (by first | rfl | (simp; done) | (simp [*]; done)), H', ⟨by have := HK1.out; have := HK2.out; omega⟩, ⟨by (with_reducible repeat (first | apply Kd.R_alloc | apply Kd.R_drewN | apply Kd.R_drew)); exact HO_3.out⟩, ⟨by repeat (first | (with_reducible first | exact HB.out | apply below_alloc | apply pw_below_drewN | apply below_drew1) | exact HB.out)⟩⟩
                  · rw [if_neg c7] at H
                    exact absurd H (by simp)
                · rw [if_neg c6] at H
                  exact absurd H (by simp)
              · rw [if_neg c5] at H
                have c5b0 : decide (x14_2 < ji3) = false := decide_eq_false c5
                clear c5
                have H' := Aside0.mk H
                clear H
                go_wp2
                go_roundg k2
                case measure => have := HK1.out; have := HK2.out; omega
                case rel => exact ⟨(wrap64 (x5_2 * 256)), (wrap64 (x14_2 + 1)), (by first | rfl | (simp; done) | (simp [*]; done)), (by first | rfl | (simp; done) | (simp [*]; done)), H', ⟨by have := HK1.out; have := HK2.out; omega⟩, ⟨by (with_reducible repeat (first | apply Kd.R_alloc | apply Kd.R_drewN | apply Kd.R_drew)); exact HO_3.out⟩, ⟨by repeat (first | (with_reducible first | exact HB.out | apply below_alloc | apply pw_below_drewN | apply below_drew1) | exact HB.out)⟩⟩
            · rw [if_neg c4] at H
              have c4b0 : decide (x14_2 < 3) = false := decide_eq_false c4
              clear c4
              have H' := Aside0.mk H
              clear H
              go_wp2
              go_loopg [3, 31] k2 (fun kq v3 v31 w' => ∃ (x3_3 : List Int) (x31_3 : Int), v31 = .int .i64 x31_3 ∧ Aside0 (token_Encode.l2 kq x0_1 x3_3 ji3 x5_2 (wrap64 (ji3 + 1)) x31_3 = some r) ∧ Aside0 (kq ≤ k2) ∧ Aside0 (Kd.R (Kd.int .u8) 5 w' w.heap.size (fun _ => True) v3 x3_3) ∧ Aside0 (Below w.heap.size w w'))
              case atStart => exact ⟨(x3_1), (0), (by first | rfl | (simp; done) | (simp [*]; done)), H', ⟨Nat.le_refl _⟩, ⟨by (with_reducible repeat (first | apply Kd.R_alloc | apply Kd.R_drewN | apply Kd.R_drew)); exact HO_3.out⟩, ⟨by repeat (first | (with_reducible first | exact HB.out | apply below_alloc | apply pw_below_drewN | apply below_drew1) | exact HB.out)⟩⟩
              case round =>
                clear H'
                try clear c2
                try clear c2b0
                try clear c2b1
                try clear p2
                try clear c4
                try clear c4b0
                try clear c5
                try clear c5b0
                try clear c6
                try clear c6b0
                try clear p6
                try clear c7
                try clear c7b0
                try clear p8
                try clear q8
                try clear hx8
                try clear p2
                try clear p8
                try clear q8
                obtain ⟨x3_3, x31_3, rfl, HA, HK3, HO_3, HB⟩ := hrel
                cases gk with
                | zero => exact absurd HA.out (by simp [token_Encode.l2])
                | succ k3 =>
                  have H := HA.out
                  clear HA
                  simp only [token_Encode.l2] at H
                  by_cases c9 : x31_3 < (wrap64 (ji3 + 1))
                  · rw [if_pos c9] at H
                    have c9b0 : decide (x31_3 < (wrap64 (ji3 + 1))) = true := decide_eq_true c9
                    (try have c9bu0 := (by have h_ := c9b0; simp (disch := omega) only [Go.Proofs.YthgjnpmebjlecaaGreatDoorXWords.wrap_in] at h_; exact h_))
                    clear c9
                    obtain ⟨ji10, hji10⟩ : ∃ j_ : Int, (wrap64 (18 - (wrap64 (6 * x31_3)))) = j_ := ⟨_, rfl⟩
                    replace H : (if 0 ≤ (ji10) then (if 0 ≤ (Go.bits .and .i64 (shr .i64 x5_2 (ji10)) 63) then (if (Go.bits .and .i64 (shr .i64 x5_2 (ji10)) 63) < 64 then (if x3_3.length < 140737488355328 then (token_Encode.l2 k3 x0_1 (x3_3 ++ [bt (⟨#[65, 66, 67, 68, 69, 70, 71, 72, 73, 74, 75, 76, 77, 78, 79, 80, 81, 82, 83, 84, 85, 86, 87, 88, 89, 90, 97, 98, 99, 100, 101, 102, 103, 104, 105, 106, 107, 108, 109, 110, 111, 112, 113, 114, 115, 116, 117, 118, 119, 120, 121, 122, 48, 49, 50, 51, 52, 53, 54, 55, 56, 57, 45, 95]⟩ : ByteArray) (Go.bits .and .i64 (shr .i64 x5_2 (ji10)) 63)]) ji3 x5_2 (wrap64 (ji3 + 1)) (wrap64 (x31_3 + 1))) else (none)) else (none)) else (none)) else (none)) = some r := by first | (rw [hji10] at H; exact H) | (simp only [hji10] at H ⊢; exact H)
                    have hji10w : (IntKind.i64.wrap (18 - (wrap64 (6 * x31_3)))) = ji10 := (i64_w _).trans hji10
                    by_cases c11 : 0 ≤ (ji10)
                    · rw [if_pos c11] at H
                      have c11b0 := eq_true c11
                      have c11b1 : decide (0 ≤ (ji10)) = true := decide_eq_true c11
                      clear c11
                      obtain ⟨ji12, hji12⟩ : ∃ j_ : Int, (shr .i64 x5_2 (ji10)) = j_ := ⟨_, rfl⟩
                      replace H : (if 0 ≤ (Go.bits .and .i64 (ji12) 63) then (if (Go.bits .and .i64 (ji12) 63) < 64 then (if x3_3.length < 140737488355328 then (token_Encode.l2 k3 x0_1 (x3_3 ++ [bt (⟨#[65, 66, 67, 68, 69, 70, 71, 72, 73, 74, 75, 76, 77, 78, 79, 80, 81, 82, 83, 84, 85, 86, 87, 88, 89, 90, 97, 98, 99, 100, 101, 102, 103, 104, 105, 106, 107, 108, 109, 110, 111, 112, 113, 114, 115, 116, 117, 118, 119, 120, 121, 122, 48, 49, 50, 51, 52, 53, 54, 55, 56, 57, 45, 95]⟩ : ByteArray) (Go.bits .and .i64 (ji12) 63)]) ji3 x5_2 (wrap64 (ji3 + 1)) (wrap64 (x31_3 + 1))) else (none)) else (none)) else (none)) = some r := by first | (rw [hji12] at H; exact H) | (simp only [hji12] at H ⊢; exact H)
                      have hji12_ : (x5_2 / 2 ^ min (ji10).toNat 64) = ji12 := hji12
                      have hji12z : (ji10) ≤ 64 → (x5_2 / 2 ^ (ji10).toNat) = ji12 := shr_small hji12
                      by_cases c13 : 0 ≤ (Go.bits .and .i64 (ji12) 63)
                      · rw [if_pos c13] at H
                        have c13b0 : decide (0 ≤ (Go.bits .and .i64 (ji12) 63)) = true := decide_eq_true c13
                        clear c13
                        by_cases c14 : (Go.bits .and .i64 (ji12) 63) < 64
                        · rw [if_pos c14] at H
                          have c14b0 : decide ((Go.bits .and .i64 (ji12) 63) < 64) = true := decide_eq_true c14
                          clear c14
                          by_cases c16 : x3_3.length < 140737488355328
                          · rw [if_pos c16] at H
                            have LMc16 := Aside0.mk c16
                            clear c16
                            obtain ⟨y241, hy241⟩ : ∃ y_ : List Int, y_ = (x3_3 ++ [bt (⟨#[65, 66, 67, 68, 69, 70, 71, 72, 73, 74, 75, 76, 77, 78, 79, 80, 81, 82, 83, 84, 85, 86, 87, 88, 89, 90, 97, 98, 99, 100, 101, 102, 103, 104, 105, 106, 107, 108, 109, 110, 111, 112, 113, 114, 115, 116, 117, 118, 119, 120, 121, 122, 48, 49, 50, 51, 52, 53, 54, 55, 56, 57, 45, 95]⟩ : ByteArray) (Go.bits .and .i64 (ji12) 63)]) := ⟨_, rfl⟩
                            replace H : (token_Encode.l2 k3 x0_1 y241 ji3 x5_2 (wrap64 (ji3 + 1)) (wrap64 (x31_3 + 1))) = some r := by first | (rw [hy241]; with_reducible exact H) | (have H2_ := (Option.bind_some _ _).symm.trans H; rw [hy241]; with_reducible exact H2_) | (have H2_ := (Option.bind_some _ _).symm.trans H; with_reducible exact H2_) | with_reducible exact H | (rw [hy241]; exact H) | exact H
                            have Ny241 := Aside0.mk hy241
                            clear hy241
                            have H' := Aside0.mk H
                            clear H
                            have p15 : 0 ≤ ((Go.bits .and .i64 (ji12) 63) : Int) := of_decide_eq_true (by first | (with_reducible assumption) | assumption)
                            have q15 : (Go.bits .and .i64 (ji12) 63) < (64 : Int) := of_decide_eq_true (by first | (with_reducible assumption) | assumption)
                            have hx15 := bt_at (⟨#[65, 66, 67, 68, 69, 70, 71, 72, 73, 74, 75, 76, 77, 78, 79, 80, 81, 82, 83, 84, 85, 86, 87, 88, 89, 90, 97, 98, 99, 100, 101, 102, 103, 104, 105, 106, 107, 108, 109, 110, 111, 112, 113, 114, 115, 116, 117, 118, 119, 120, 121, 122, 48, 49, 50, 51, 52, 53, 54, 55, 56, 57, 45, 95]⟩ : ByteArray) (Go.bits .and .i64 (ji12) 63)
                            replace p15 := eq_true p15
                            replace q15 := eq_true q15
                            go_wp2_with (first | ((with_reducible refine gate_builtin (b := .append) (xs := #[.tmp 34, .tmp 42]) rfl ?_); at_builtin; refine Kd.R_append (Kd.int .u8) (w0 := w) w.heap.size rfl (.tmp 34) (.tmp 42) 91 5 (.int .u8 0) 1 rfl Tryz.underlying91 info5 rfl (by decide) (by omega) u3 x3_3 (bt (⟨#[65, 66, 67, 68, 69, 70, 71, 72, 73, 74, 75, 76, 77, 78, 79, 80, 81, 82, 83, 84, 85, 86, 87, 88, 89, 90, 97, 98, 99, 100, 101, 102, 103, 104, 105, 106, 107, 108, 109, 110, 111, 112, 113, 114, 115, 116, 117, 118, 119, 120, 121, 122, 48, 49, 50, 51, 52, 53, 54, 55, 56, 57, 45, 95]⟩ : ByteArray) (Go.bits .and .i64 (ji12) 63)) [.int .u8 (bt (⟨#[65, 66, 67, 68, 69, 70, 71, 72, 73, 74, 75, 76, 77, 78, 79, 80, 81, 82, 83, 84, 85, 86, 87, 88, 89, 90, 97, 98, 99, 100, 101, 102, 103, 104, 105, 106, 107, 108, 109, 110, 111, 112, 113, 114, 115, 116, 117, 118, 119, 120, 121, 122, 48, 49, 50, 51, 52, 53, 54, 55, 56, 57, 45, 95]⟩ : ByteArray) (Go.bits .and .i64 (ji12) 63))] (fun _ => True) (fun _ => False) rfl rfl ?aP (fun _ hk => hk.elim) ?aF ?aO ?aB ?aS ?aL ?_; (case aP => exact rfl); (case aB => exact (by repeat (first | (with_reducible first | exact HB.out | apply below_alloc | apply pw_below_drewN | apply below_drew1) | exact HB.out))); (case aF => exact (fun _ _ => trivial)); (case aO => exact (by (with_reducible repeat (first | apply Kd.R_alloc | apply Kd.R_drewN | apply Kd.R_drew)); exact HO_3.out)); (case aS => exact (below_size (by repeat (first | (with_reducible first | exact HB.out | apply below_alloc | apply pw_below_drewN | apply below_drew1) | exact HB.out)))); (case aL => have := LMc16.out; omega); intro v242 w17 ho hb hg hat; rw [← Ny241.out] at ho; have n0_ := Aside0.mk (hb); have n1_ := Aside0.mk (ho); clear HB; clear HO_3; have HB := n0_; have HO243 := n1_; clear n0_ n1_; clear ho hb hg hat))
                            go_roundg k3
                            case measure => have := HK1.out; have := HK2.out; have := HK3.out; omega
                            case rel => exact ⟨(y241), (wrap64 (x31_3 + 1)), (by first | rfl | (simp; done) | (simp [*]; done)), H', ⟨by have := HK1.out; have := HK2.out; have := HK3.out; omega⟩, ⟨by (with_reducible repeat (first | apply Kd.R_alloc | apply Kd.R_drewN | apply Kd.R_drew)); exact HO243.out⟩, ⟨by repeat (first | (with_reducible first | exact HB.out | apply below_alloc | apply pw_below_drewN | apply below_drew1) | exact HB.out)⟩⟩
                          · rw [if_neg c16] at H
                            exact absurd H (by simp)
                        · rw [if_neg c14] at H
                          exact absurd H (by simp)
                      · rw [if_neg c13] at H
                        exact absurd H (by simp)
                    · rw [if_neg c11] at H
                      exact absurd H (by simp)
                  · rw [if_neg c9] at H
                    have c9b0 : decide (x31_3 < (wrap64 (ji3 + 1))) = false := decide_eq_false c9
                    (try have c9bu0 := (by have h_ := c9b0; simp (disch := omega) only [Go.Proofs.YthgjnpmebjlecaaGreatDoorXWords.wrap_in] at h_; exact h_))
                    clear c9
                    by_cases c18 : 0 ≤ ji3
                    · rw [if_pos c18] at H
                      have c18b0 := eq_true c18
                      have c18b1 : decide (0 ≤ ji3) = true := decide_eq_true c18
                      clear c18
                      by_cases c19 : ji3 ≤ (x0_1.size : Int)
                      · rw [if_pos c19] at H
                        have c19b0 := eq_true c19
                        have c19b1 : decide (ji3 ≤ (x0_1.size : Int)) = true := decide_eq_true c19
                        clear c19
                        have H' := Aside0.mk H
                        clear H
                        go_wp2
                        go_roundg k3
                        case measure => have := HK1.out; have := HK2.out; have := HK3.out; omega
                        case rel => exact ⟨(x0_1.extract (ji3 : Int).toNat x0_1.size), (x3_3), (by first | rfl | (simp; done) | (simp only [← hji3] <;> (first | rfl | simp)) | (simp [*]; done)), H', ⟨by have := HK1.out; have := HK2.out; have := HK3.out; omega⟩, ⟨by (with_reducible repeat (first | apply Kd.R_alloc | apply Kd.R_drewN | apply Kd.R_drew)); exact HO_3.out⟩, ⟨by repeat (first | (with_reducible first | exact HB.out | apply below_alloc | apply pw_below_drewN | apply below_drew1) | exact HB.out)⟩⟩
                      · rw [if_neg c19] at H
                        exact absurd H (by simp)
                    · rw [if_neg c18] at H
                      exact absurd H (by simp)
      · rw [if_neg c2] at H
        have c2b0 : decide (0 < (x0_1.size : Int)) = false := decide_eq_false c2
        have c2b1 : decide (0 < x0_1.size) = false := decide_eq_false (by omega)
        clear c2
        obtain rfl := Option.some.inj H
        have hcv20 := own_string (P := Tryz.prog) Tryz.underlying91 Tryz.underlying5 Tryz.underlying9 (Kd.own_of_R HO_3.out)
        go_wp2
        go_ret
        exact ⟨by first | rfl | (simp [errW_none, errW_some] <;> rfl) | (simp [*, errW_none, errW_some] <;> rfl), by repeat (first | (with_reducible first | exact HB.out | apply below_alloc | apply pw_below_drewN | apply below_drew1) | exact HB.out)⟩

end Go.Proofs.YthgjnpmebjlecaaGreatDoor.P
/- gatekeep2.ready hands back true; no conditions. -/
namespace Go.Proofs.YthgjnpmebjlecaaGreatDoor.Ext
open Go.RowKit Go.Proofs.YthgjnpmebjlecaaGreatDoorW.PrintWords Go.Proofs.YthgjnpmebjlecaaGreatDoorW.PrintLast Go.Proofs.YthgjnpmebjlecaaGreatDoorW.PrintMore Go.Proofs.YthgjnpmebjlecaaGreatDoor.P

def hdrs : List S49 := [⟨ccName, ageTwo⟩]
def inst : List S29 := [⟨⟨#[97]⟩, 1⟩]
set_option maxRecDepth 100000 in
theorem rf_path : message_NormalPath.f 60 ⟨#[47, 97, 47, 46, 46, 47, 98]⟩ = some (⟨#[47, 98]⟩, 0) := by decide +kernel
set_option maxRecDepth 100000 in
theorem rf_round : upstream_Round.f 60 inst 2 = some ([⟨#[97]⟩, ⟨#[97]⟩], 0) := by decide +kernel
set_option maxRecDepth 100000 in
theorem rf_check : message_CheckResponse.f 60 200 hdrs ⟨#[]⟩ = some 0 := by decide +kernel
set_option maxRecDepth 100000 in
theorem rf_val : message_Values.f 60 hdrs ccName = some [ageTwo] := by decide +kernel
set_option maxRecDepth 100000 in
theorem rf_parts : message_Parts.f 60 [ageTwo] = some [ageTwo] := by decide +kernel
set_option maxRecDepth 100000 in
theorem rf_cut : strings_Cut.f ageTwo ⟨#[61]⟩ = some (⟨#[109, 97, 120, 45, 97, 103, 101]⟩, ⟨#[50]⟩, true) := by decide +kernel
set_option maxRecDepth 100000 in
theorem rf_sec : cache_seconds.f 60 ⟨#[50]⟩ = some (2, true) := by decide +kernel
set_option maxRecDepth 100000 in
theorem rf_tok : message_IsToken.f 60 ⟨#[109, 97, 120, 45, 97, 103, 101]⟩ = some true := by decide +kernel
set_option maxRecDepth 100000 in
theorem rf_low : strings_ToLower.f ⟨#[109, 97, 120, 45, 97, 103, 101]⟩ = some ⟨#[109, 97, 120, 45, 97, 103, 101]⟩ := by decide +kernel
set_option maxRecDepth 100000 in
theorem rf_flag : slices_Index_string_string.f 60 flagNames ⟨#[109, 97, 120, 45, 97, 103, 101]⟩ = some (-1) := by decide +kernel
set_option maxRecDepth 100000 in
theorem rf_num : slices_Index_string_string.f 60 numberNames ⟨#[109, 97, 120, 45, 97, 103, 101]⟩ = some 0 := by decide +kernel
set_option maxRecDepth 100000 in
theorem rf_vary : message_Values.f 60 hdrs varyName = some [] := by decide +kernel
set_option maxRecDepth 100000 in
theorem rf_none : message_Parts.f 60 [] = some [] := by decide +kernel
set_option maxRecDepth 100000 in
theorem rf_star : slices_Contains_string_string.f 60 [] ⟨#[42]⟩ = some false := by decide +kernel
set_option maxRecDepth 100000 in
theorem rf_life : cache_lifetime.f false false false false false false 2 (-1) (-1) (-1) (-1) (-1) = some 2000 := by decide +kernel
set_option maxRecDepth 100000 in
theorem rf_key1 : kit_IsKey.f 60 appA = some true := by decide +kernel
set_option maxRecDepth 100000 in
theorem rf_key2 : kit_IsKey.f 60 prodP = some true := by decide +kernel
set_option maxRecDepth 100000 in
theorem rf_out : kit_Outside.f 6 1 6 = some false := by decide +kernel
set_option maxRecDepth 100000 in
theorem rf_itoa : strconv_Itoa.f 5 = some ⟨#[53]⟩ := by decide +kernel
set_option maxRecDepth 100000 in
theorem rf_words : portal_kindWords.f = some kindList := by decide +kernel
set_option maxRecDepth 100000 in
theorem rf_code : token_Encode.f 60 ⟨#[97, 98]⟩ = some ⟨#[89, 87, 73]⟩ := by decide +kernel

theorem row49 (w : World) (g : Nat) (x : S49) (h0 : w.cell? ⟨g, 0, none⟩ = some (.string x.f0)) (h1 : w.cell? ⟨g, 1, none⟩ = some (.string x.f1)) : Kd.C k49 w (some ⟨g, 0, none⟩) [x].length [x] := by
  refine ⟨rfl, by simp, fun _ => ⟨_, rfl, fun j p hj => ?_⟩⟩
  obtain rfl : j = 0 := by
    rcases j with _ | j
    · rfl
    · simp at hj
  obtain rfl : x = p := by simpa using hj
  refine ⟨[.string x.f0, .string x.f1], rfl, k49_mk w x, fun i u hi => ?_⟩
  rcases i with _ | _ | i
  · cases hi; exact h0
  · cases hi; exact h1
  · simp at hi
theorem row29 (w : World) (g : Nat) (x : S29) (h0 : w.cell? ⟨g, 0, none⟩ = some (.string x.f0)) (h1 : w.cell? ⟨g, 1, none⟩ = some (.int .i64 x.f1)) : Kd.C k29 w (some ⟨g, 0, none⟩) [x].length [x] := by
  refine ⟨rfl, by simp, fun _ => ⟨_, rfl, fun j p hj => ?_⟩⟩
  obtain rfl : j = 0 := by
    rcases j with _ | j
    · rfl
    · simp at hj
  obtain rfl : x = p := by simpa using hj
  refine ⟨[.string x.f0, .int .i64 x.f1], rfl, k29_mk w x, fun i u hi => ?_⟩
  rcases i with _ | _ | i
  · cases hi; exact h0
  · cases hi; exact h1
  · simp at hi
def ready.f : Option Bool := some true
set_option maxHeartbeats 4000000 in
set_option maxRecDepth 100000 in
theorem ready_true (w : World) : Calls Tryz.prog 9 #[] w fun e w' => e = .returned (.bool true) ∧ Below w.heap.size w w' := by
  go_enter Tryz.func9, Tryz.ntmps9
  go_wp2_with fail
  refine (message_NormalPath.calls 60 _ _ _ _ rf_path).mono ?_
  rintro e w1 ⟨rfl, b1⟩
  go_wp2_with fail
  refine (upstream_Round.calls 60 _ 1 inst 2 _ _ _ (row29 _ w1.heap.size _ (blk_cell (blk_new _ _) 0) (blk_cell (blk_new _ _) 1)) (by decide) rf_round).mono ?_
  rintro e w2 ⟨v2, rfl, r2, b2⟩
  have B2 := Lib.hid ((b1.alloc b1.size _).trans (b2.mono (b1.alloc b1.size _).size))
  obtain ⟨A2, c2, rfl, l2, q2⟩ := Kd.R_reads r2
  clear r2 l2 q2 b2 b1
  go_wp2_with fail
  refine (life_two 200 _ 1 hdrs ⟨#[]⟩ _ (row49 _ w2.heap.size _ (blk_cell (blk_new _ _) 0) (blk_cell (blk_new _ _) 1)) (by decide) 60 rf_check rf_val rf_parts rf_cut rf_sec rf_tok rf_low rf_flag rf_num rf_vary rf_none rf_star rf_life).mono ?_
  rintro e w3 ⟨rfl, b3⟩
  have B3 := Lib.hid ((B2.out.alloc B2.out.size _).trans (b3.mono (B2.out.alloc B2.out.size _).size))
  clear b3
  go_wp2_with fail
  refine (text_end w3.heap.size 1 _ (by decide) 60 (blk_cell (blk_new _ _) 0) (blk_cell (blk_new _ _) 1) (blk_cell (blk_new _ _) 2) (blk_cell (blk_new _ _) 3) (blk_cell (blk_new _ _) 4) rf_key1 rf_key2 rf_out rf_itoa rf_words).mono ?_
  rintro e w4 ⟨rfl, b4⟩
  have B4 := Lib.hid ((B3.out.alloc B3.out.size _).trans (b4.mono (B3.out.alloc B3.out.size _).size))
  clear b4
  go_wp2_with fail
  refine (token_Encode.calls 60 _ _ _ rf_code).mono ?_
  rintro e w5 ⟨rfl, b5⟩
  have B5 := Lib.hid (B4.out.trans (b5.mono B4.out.size))
  clear b5
  go_wp2_with fail
  go_ret
  exact ⟨rfl, B5.out⟩
theorem ready.calls (r : Bool) (w : World) (h : ready.f = some r) :
    Calls Tryz.prog 9 #[] w fun e w' => e = .returned (.bool r) ∧ Below w.heap.size w w' := by
  obtain rfl : true = r := by simpa [ready.f] using h
  exact ready_true w
end Go.Proofs.YthgjnpmebjlecaaGreatDoor.Ext
/- The machine's side, printed by a program of this session: each Go function named below comes to the Lean function of its name; conditions: those of each theorem. -/
namespace Go.Proofs.YthgjnpmebjlecaaGreatDoor.P
open Go.RowKit Go.Proofs.YthgjnpmebjlecaaGreatDoorW.PrintWords Go.Proofs.YthgjnpmebjlecaaGreatDoorW.PrintLast Go.Proofs.YthgjnpmebjlecaaGreatDoorW.PrintMore
attribute [local go_sem] max2_int min2_int max_two min_two max_three min_three max_four min_four   -- for this text's walks alone
set_option linter.unusedVariables false
set_option linter.unusedSimpArgs false

/-! ### gatekeep2_RoundsAreFair: function 3 -/
mutual
def gatekeep2_RoundsAreFair.l0 : Nat → List (S29) → Int → List (S29) → Int → Int → Option (Bool)
  | 0, _, _, _, _, _ => none
  | k + 1, x4, x5, x20, x21, x22 => if x22 < x21 then (if 0 ≤ x22 then (if x22 < (x20.length : Int) then (gatekeep2_RoundsAreFair.l0 k x4 (wrap64 (x5 + ((rd_T29 x20 x22).f1))) x20 x21 (wrap64 (x22 + 1))) else (none)) else (none)) else ((upstream_Round.f k x4 (wrap64 (2 * x5))).bind fun bt176 => (if bt176.2 = 0 then (gatekeep2_RoundsAreFair.j1 k x4 x5 bt176.1 ((bt176.1.length : Int) != (wrap64 (2 * x5)))) else (gatekeep2_RoundsAreFair.j1 k x4 x5 bt176.1 true)))
def gatekeep2_RoundsAreFair.j1 : Nat → List (S29) → Int → List ByteArray → Bool → Option (Bool)
  | 0, _, _, _, _ => none
  | k + 1, x4, x5, x8, x46 => if x46 = true then (some false) else (gatekeep2_RoundsAreFair.l1 k x5 x8 x4 (x4.length : Int) 0)
def gatekeep2_RoundsAreFair.l1 : Nat → Int → List ByteArray → List (S29) → Int → Int → Option (Bool)
  | 0, _, _, _, _, _ => none
  | k + 1, x5, x8, x47, x48, x49 => if x49 < x48 then (if 0 ≤ x49 then (if x49 < (x47.length : Int) then (if 0 ≤ x5 then (if x5 ≤ (x8.length : Int) then ((some (x8.take (x5 : Int).toNat : List ByteArray)).bind fun y192 => (gatekeep2_RoundsAreFair.l2 k x5 x8 0 x47 x48 x49 y192 (y192.length : Int) 0 ((rd_T29 x47 x49).f0) ((rd_T29 x47 x49).f1))) else (none)) else (none)) else (none)) else (none)) else (if 0 ≤ x5 then (if x5 ≤ (x8.length : Int) then ((slices_Equal_string_string.f k (x8.take (x5 : Int).toNat) (x8.drop (x5 : Int).toNat)).bind fun t188 => (if t188 = true then ((Ext.ready.f).bind fun t189 => (some t189)) else (some false))) else (none)) else (none))
def gatekeep2_RoundsAreFair.l2 : Nat → Int → List ByteArray → Int → List (S29) → Int → Int → List ByteArray → Int → Int → ByteArray → Int → Option (Bool)
  | 0, _, _, _, _, _, _, _, _, _, _, _ => none
  | k + 1, x5, x8, x12, x47, x48, x49, x55, x56, x57, x192000, x192001 => if x57 < x56 then (if 0 ≤ x57 then (if x57 < (x55.length : Int) then (if (rdOf ByteArray.empty x55 x57).toList = x192000.toList then (gatekeep2_RoundsAreFair.l2 k x5 x8 (wrap64 (x12 + 1)) x47 x48 x49 x55 x56 (wrap64 (x57 + 1)) x192000 x192001) else (gatekeep2_RoundsAreFair.l2 k x5 x8 x12 x47 x48 x49 x55 x56 (wrap64 (x57 + 1)) x192000 x192001)) else (none)) else (none)) else (if x12 = x192001 then (gatekeep2_RoundsAreFair.l1 k x5 x8 x47 x48 (wrap64 (x49 + 1))) else (some false))
end
def gatekeep2_RoundsAreFair.f (k : Nat) (l0 : List Int) : Option (Bool) := (gatemake_Stream_RightInstances.f k l0 0).bind fun bt170 => (gatekeep2_RoundsAreFair.l0 k bt170.1 0 bt170.1 (bt170.1.length : Int) 0)
theorem gatekeep2_RoundsAreFair.mono_l : ∀ k, (∀ y0 y1 y2 y3 y4, LeO (gatekeep2_RoundsAreFair.l0 k y0 y1 y2 y3 y4) (gatekeep2_RoundsAreFair.l0 (k + 1) y0 y1 y2 y3 y4)) ∧ (∀ y0 y1 y2 y3, LeO (gatekeep2_RoundsAreFair.j1 k y0 y1 y2 y3) (gatekeep2_RoundsAreFair.j1 (k + 1) y0 y1 y2 y3)) ∧ (∀ y0 y1 y2 y3 y4, LeO (gatekeep2_RoundsAreFair.l1 k y0 y1 y2 y3 y4) (gatekeep2_RoundsAreFair.l1 (k + 1) y0 y1 y2 y3 y4)) ∧ (∀ y0 y1 y2 y3 y4 y5 y6 y7 y8 y9 y10, LeO (gatekeep2_RoundsAreFair.l2 k y0 y1 y2 y3 y4 y5 y6 y7 y8 y9 y10) (gatekeep2_RoundsAreFair.l2 (k + 1) y0 y1 y2 y3 y4 y5 y6 y7 y8 y9 y10))
  | 0 => ⟨fun _ _ _ _ _ r h => by simp [gatekeep2_RoundsAreFair.l0] at h, fun _ _ _ _ r h => by simp [gatekeep2_RoundsAreFair.j1] at h, fun _ _ _ _ _ r h => by simp [gatekeep2_RoundsAreFair.l1] at h, fun _ _ _ _ _ _ _ _ _ _ _ r h => by simp [gatekeep2_RoundsAreFair.l2] at h⟩
  | k + 1 => by
    obtain ⟨ih0, ih1, ih2, ih3⟩ := gatekeep2_RoundsAreFair.mono_l k
    refine ⟨?_, ?_, ?_, ?_⟩
    · intro y0 y1 y2 y3 y4
      unfold gatekeep2_RoundsAreFair.l0
      repeat' first
      | (with_reducible exact ih0 _ _ _ _ _)
      | (with_reducible exact ih1 _ _ _ _)
      | (with_reducible exact ih2 _ _ _ _ _)
      | (with_reducible exact ih3 _ _ _ _ _ _ _ _ _ _ _)
      | (with_reducible exact gatemake_Stream_RightInstances.mono _ _ _)
      | (with_reducible exact slices_Equal_string_string.mono _ _ _)
      | (with_reducible exact upstream_Round.mono _ _ _)
      | (with_reducible exact LeO.refl _)
      | (with_reducible exact LeO.none _)
      | (with_reducible refine LeO.ite ?_ ?_)
      | (with_reducible refine LeO.bind ?_ (fun _ => ?_))
      | exact ih0 _ _ _ _ _
      | exact ih1 _ _ _ _
      | exact ih2 _ _ _ _ _
      | exact ih3 _ _ _ _ _ _ _ _ _ _ _
      | exact gatemake_Stream_RightInstances.mono _ _ _
      | exact slices_Equal_string_string.mono _ _ _
      | exact upstream_Round.mono _ _ _
      | exact LeO.none _
      | refine LeO.ite ?_ ?_
      | refine LeO.bind ?_ (fun _ => ?_)
    · intro y0 y1 y2 y3
      unfold gatekeep2_RoundsAreFair.j1
      repeat' first
      | (with_reducible exact ih0 _ _ _ _ _)
      | (with_reducible exact ih1 _ _ _ _)
      | (with_reducible exact ih2 _ _ _ _ _)
      | (with_reducible exact ih3 _ _ _ _ _ _ _ _ _ _ _)
      | (with_reducible exact gatemake_Stream_RightInstances.mono _ _ _)
      | (with_reducible exact slices_Equal_string_string.mono _ _ _)
      | (with_reducible exact upstream_Round.mono _ _ _)
      | (with_reducible exact LeO.refl _)
      | (with_reducible exact LeO.none _)
      | (with_reducible refine LeO.ite ?_ ?_)
      | (with_reducible refine LeO.bind ?_ (fun _ => ?_))
      | exact ih0 _ _ _ _ _
      | exact ih1 _ _ _ _
      | exact ih2 _ _ _ _ _
      | exact ih3 _ _ _ _ _ _ _ _ _ _ _
      | exact gatemake_Stream_RightInstances.mono _ _ _
      | exact slices_Equal_string_string.mono _ _ _
      | exact upstream_Round.mono _ _ _
      | exact LeO.none _
      | refine LeO.ite ?_ ?_
      | refine LeO.bind ?_ (fun _ => ?_)
    · intro y0 y1 y2 y3 y4
      unfold gatekeep2_RoundsAreFair.l1
      repeat' first
      | (with_reducible exact ih0 _ _ _ _ _)
      | (with_reducible exact ih1 _ _ _ _)
      | (with_reducible exact ih2 _ _ _ _ _)
      | (with_reducible exact ih3 _ _ _ _ _ _ _ _ _ _ _)
      | (with_reducible exact gatemake_Stream_RightInstances.mono _ _ _)
      | (with_reducible exact slices_Equal_string_string.mono _ _ _)
      | (with_reducible exact upstream_Round.mono _ _ _)
      | (with_reducible exact LeO.refl _)
      | (with_reducible exact LeO.none _)
      | (with_reducible refine LeO.ite ?_ ?_)
      | (with_reducible refine LeO.bind ?_ (fun _ => ?_))
      | exact ih0 _ _ _ _ _
      | exact ih1 _ _ _ _
      | exact ih2 _ _ _ _ _
      | exact ih3 _ _ _ _ _ _ _ _ _ _ _
      | exact gatemake_Stream_RightInstances.mono _ _ _
      | exact slices_Equal_string_string.mono _ _ _
      | exact upstream_Round.mono _ _ _
      | exact LeO.none _
      | refine LeO.ite ?_ ?_
      | refine LeO.bind ?_ (fun _ => ?_)
    · intro y0 y1 y2 y3 y4 y5 y6 y7 y8 y9 y10
      unfold gatekeep2_RoundsAreFair.l2
      repeat' first
      | (with_reducible exact ih0 _ _ _ _ _)
      | (with_reducible exact ih1 _ _ _ _)
      | (with_reducible exact ih2 _ _ _ _ _)
      | (with_reducible exact ih3 _ _ _ _ _ _ _ _ _ _ _)
      | (with_reducible exact gatemake_Stream_RightInstances.mono _ _ _)
      | (with_reducible exact slices_Equal_string_string.mono _ _ _)
      | (with_reducible exact upstream_Round.mono _ _ _)
      | (with_reducible exact LeO.refl _)
      | (with_reducible exact LeO.none _)
      | (with_reducible refine LeO.ite ?_ ?_)
      | (with_reducible refine LeO.bind ?_ (fun _ => ?_))
      | exact ih0 _ _ _ _ _
      | exact ih1 _ _ _ _
      | exact ih2 _ _ _ _ _
      | exact ih3 _ _ _ _ _ _ _ _ _ _ _
      | exact gatemake_Stream_RightInstances.mono _ _ _
      | exact slices_Equal_string_string.mono _ _ _
      | exact upstream_Round.mono _ _ _
      | exact LeO.none _
      | refine LeO.ite ?_ ?_
      | refine LeO.bind ?_ (fun _ => ?_)
theorem gatekeep2_RoundsAreFair.mono : ∀ a0 k, LeO (gatekeep2_RoundsAreFair.f k a0) (gatekeep2_RoundsAreFair.f (k + 1) a0) := by
  intro a0 k
  obtain ⟨ih0, ih1, ih2, ih3⟩ := gatekeep2_RoundsAreFair.mono_l k
  unfold gatekeep2_RoundsAreFair.f
  repeat' first
      | (with_reducible exact ih0 _ _ _ _ _)
      | (with_reducible exact ih1 _ _ _ _)
      | (with_reducible exact ih2 _ _ _ _ _)
      | (with_reducible exact ih3 _ _ _ _ _ _ _ _ _ _ _)
      | (with_reducible exact gatemake_Stream_RightInstances.mono _ _ _)
      | (with_reducible exact slices_Equal_string_string.mono _ _ _)
      | (with_reducible exact upstream_Round.mono _ _ _)
      | (with_reducible exact LeO.refl _)
      | (with_reducible exact LeO.none _)
      | (with_reducible refine LeO.ite ?_ ?_)
      | (with_reducible refine LeO.bind ?_ (fun _ => ?_))
      | exact ih0 _ _ _ _ _
      | exact ih1 _ _ _ _
      | exact ih2 _ _ _ _ _
      | exact ih3 _ _ _ _ _ _ _ _ _ _ _
      | exact gatemake_Stream_RightInstances.mono _ _ _
      | exact slices_Equal_string_string.mono _ _ _
      | exact upstream_Round.mono _ _ _
      | exact LeO.none _
      | refine LeO.ite ?_ ?_
      | refine LeO.bind ?_ (fun _ => ?_)
def gatekeep2_RoundsAreFair.T25 : Bool × List (List Nat × List Nat) := (true, [([], []), ([], []), ([0, 1], [0, 1]), ([], []), ([], []), ([3, 4], [3, 4]), ([2, 5], [2, 5]), ([6, 6], [6]), ([7, 7], [7]), ([7, 8], [7, 8]), ([9, 8, 0, 1, 2, 3, 4, 5, 6, 7, 8, 9], [9])])
def gatekeep2_RoundsAreFair.B25 : List Nat := [0, 0, 3, 0, 0, 24, 63, 127, 255, 511, 1023]
theorem gatekeep2_RoundsAreFair.tab25 : rtab .any (opsOf Tryz.f3 25) = gatekeep2_RoundsAreFair.T25 := by kernel_rfl
theorem gatekeep2_RoundsAreFair.bits25 : waitsOk gatekeep2_RoundsAreFair.T25.2 gatekeep2_RoundsAreFair.B25 = true := by kernel_rfl
set_option maxHeartbeats 8000000 in
set_option maxRecDepth 100000 in
theorem gatekeep2_RoundsAreFair.calls (k : Nat) (A0 : Option Addr) (c0 : Nat) (l0 : List Int) (r : Bool) (w : World) (hr0 : Kd.C (Kd.int .i64) w A0 l0.length l0) (hc0 : l0.length ≤ c0) (h : gatekeep2_RoundsAreFair.f k l0 = some r) :
    Calls Tryz.prog 3 #[.slice A0 l0.length c0] w fun e w' => e = .returned (.bool r) ∧ Below w.heap.size w w' := by
  have hu25 := Tryz.underlying25
  have hu29 := Tryz.underlying29
  have HR0 := Aside0.mk hr0
  have HC0 := Aside0.mk hc0
  clear hr0 hc0
  have HB := Aside0.mk (Below.refl w.heap.size w)
  have H : ((gatemake_Stream_RightInstances.f k l0 0).bind fun bt170 => (gatekeep2_RoundsAreFair.l0 k bt170.1 0 bt170.1 (bt170.1.length : Int) 0)) = some r := h
  clear h
  replace H := Option.bind_eq_some_iff.mp H
  obtain ⟨⟨t170, t173⟩, A20, H⟩ := H
  replace H : (gatekeep2_RoundsAreFair.l0 k t170 0 t170 (t170.length : Int) 0) = some r := H
  have A2 := Aside0.mk A20
  clear A20
  have H' := Aside0.mk H
  clear H
  go_enter Tryz.func3, Tryz.ntmps3
  go_wp2_with (first | ((with_reducible refine gate_dst (N := 17) rfl ?_); (try (refine gate_guard (by rfl) ?_; dsimp only)); refine box_event ?hg (N := 17) ?hd (cs := #[.slice A0 l0.length c0, .int .i64 0]) (t := 25) ?hr ?_; (case hd => rfl); (case hg => rfl); (case hr => first | (go_simp; done) | (go_simp; rfl)); intro gb169 hg w3 hbox hb; have n0_ := Aside0.mk (below_step (by repeat (first | (with_reducible first | exact HB.out | apply below_alloc | apply pw_below_drewN | apply below_drew1) | exact HB.out)) hb); have n1_ := Aside0.mk ((⟨A0, c0, hbox, (by rw [hg]; exact (below_size (by repeat (first | (with_reducible first | exact HB.out | apply below_alloc | apply pw_below_drewN | apply below_drew1) | exact HB.out)))), HR0.out⟩ : IsS25 w w3 gb169 l0 0)); clear HB; have HB := n0_; have HI169 := n1_; clear n0_ n1_; clear hb hbox hg) | ((with_reducible refine gate_callee (f := 6) rfl ?_); refine goesL_ (some 19) rfl rfl Tryz.func6 (by kernel_rfl) rfl #[.pointer (some ⟨gb169, 0, none⟩)] rfl (by (try simp only [List.map_toArray, List.map_cons, List.map_nil]); first | done | rfl | (simp only [List.length_drop, List.length_take]; rfl)) ?_; (with_reducible refine (gatemake_Stream_RightInstances.calls k gb169 l0 0 t170 t173 w _ ?side1 ?side2 A2.out).mono ?_); (case side1 => repeat (first | (with_reducible first | exact HI169.out | apply IsS25.alloc | apply IsS25.drewN | apply IsS25.drew | apply IsS25.set_1) | exact HI169.out)); (case side2 => repeat (first | (with_reducible first | exact HB.out | apply below_alloc | apply pw_below_drewN | apply below_drew1 | refine below_set ?_ (IsS25.ge HI169.out)) | exact HB.out)); rintro e w4 ⟨v171, rfl, ho0, hi, hb, hk⟩; refine ⟨_, rfl, ?_⟩; have n0_ := Aside0.mk (Kd.R_lower ho0 (below_size (by repeat (first | (with_reducible first | exact HB.out | apply below_alloc | apply pw_below_drewN | apply below_drew1 | refine below_set ?_ (IsS25.ge HI169.out)) | exact HB.out)))); have n1_ := Aside0.mk (hb); have n2_ := Aside0.mk (hi); clear HB; clear HI169; have HO172 := n0_; have HB := n1_; have HI169 := n2_; clear n0_ n1_ n2_; (try clear hb); (try clear hb2); (try clear hk); (try clear hi); (try clear ho0); obtain ⟨Ao5, co5, eo5⟩ := Kd.R_slice HO172.out; subst eo5))
  go_loopg [5, 22] k (fun kq v5 v22 w' => ∃ (x5_1 : Int) (x22_1 : Int), v5 = .int .i64 x5_1 ∧ v22 = .int .i64 x22_1 ∧ Aside0 (gatekeep2_RoundsAreFair.l0 kq t170 x5_1 t170 (t170.length : Int) x22_1 = some r) ∧ Aside0 (kq ≤ k) ∧ Aside0 (Kd.R k29 29 w' w.heap.size (fun _ => True) (.slice Ao5 t170.length co5) t170) ∧ Aside0 (Kd.R k29 29 w' w.heap.size (fun _ => True) (.slice Ao5 t170.length co5) t170) ∧ Aside0 (Below w.heap.size w w'))
  case atStart => exact ⟨(0), (0), (by first | rfl | (simp; done) | (simp [*]; done)), (by first | rfl | (simp; done) | (simp [*]; done)), H', ⟨Nat.le_refl _⟩, ⟨by (with_reducible repeat (first | apply Kd.R_alloc | apply Kd.R_drewN | apply Kd.R_drew)); exact HO172.out⟩, ⟨by (with_reducible repeat (first | apply Kd.R_alloc | apply Kd.R_drewN | apply Kd.R_drew)); exact HO172.out⟩, ⟨by repeat (first | (with_reducible first | exact HB.out | apply below_alloc | apply pw_below_drewN | apply below_drew1 | refine below_set ?_ (IsS25.ge HI169.out)) | exact HB.out)⟩⟩
  case round =>
    clear H'
    try clear p2
    try clear c3
    obtain ⟨x5_1, x22_1, rfl, rfl, HA, HK1, HO_4, HO_20, HB⟩ := hrel
    cases gk with
    | zero => exact absurd HA.out (by simp [gatekeep2_RoundsAreFair.l0])
    | succ k1 =>
      have H := HA.out
      clear HA
      simp only [gatekeep2_RoundsAreFair.l0] at H
      by_cases c6 : x22_1 < (t170.length : Int)
      · rw [if_pos c6] at H
        have c6b0 : decide (x22_1 < (t170.length : Int)) = true := decide_eq_true c6
        clear c6
        by_cases c7 : 0 ≤ x22_1
        · rw [if_pos c7] at H
          have c7b0 : decide (0 ≤ x22_1) = true := decide_eq_true c7
          clear c7
          by_cases c8 : x22_1 < (t170.length : Int)
          · rw [if_pos c8] at H
            have c8b0 : decide (x22_1 < (t170.length : Int)) = true := decide_eq_true c8
            clear c8
            have H' := Aside0.mk H
            clear H
            have p174 : 0 ≤ (x22_1 : Int) := of_decide_eq_true (by first | (with_reducible assumption) | assumption)
            have q174 : x22_1 < (t170.length : Int) := of_decide_eq_true (by first | (with_reducible assumption) | assumption)
            obtain ⟨ad174, e174, hx174_0, hx174_1⟩ := at_T29 (Kd.R_reads' HO_20.out).2.2 x22_1 p174 q174
            cases e174
            replace p174 := eq_true p174
            replace q174 := eq_true q174
            go_wp2_with (first | ((with_reducible refine gate_dst (N := 7) rfl ?_); (try (refine gate_guard (by rfl) ?_; dsimp only)); refine box_event ?hg (N := 7) ?hd (cs := #[.string (⟨#[]⟩ : ByteArray), .int .i64 0]) (t := 29) ?hr ?_; (case hd => rfl); (case hg => rfl); (case hr => first | (go_simp; done) | (go_simp; rfl)); intro gb175 hg w9 hbox hb; have n0_ := Aside0.mk (Kd.R_below (Kd.R_elderB (by (with_reducible repeat (first | apply Kd.R_alloc | apply Kd.R_drewN | apply Kd.R_drew)); exact HO_4.out) gb175 (Nat.le_of_eq hg.symm)) hb); have n1_ := Aside0.mk (Kd.R_below (Kd.R_elderB (by (with_reducible repeat (first | apply Kd.R_alloc | apply Kd.R_drewN | apply Kd.R_drew)); exact HO_20.out) gb175 (Nat.le_of_eq hg.symm)) hb); have n2_ := Aside0.mk (below_step (by repeat (first | (with_reducible first | exact HB.out | apply below_alloc | apply pw_below_drewN | apply below_drew1) | exact HB.out)) hb); have n3_ := Aside0.mk (hbox); have n4_ := Aside0.mk ((by rw [hg]; exact (below_size (by repeat (first | (with_reducible first | exact HB.out | apply below_alloc | apply pw_below_drewN | apply below_drew1) | exact HB.out))) : w.heap.size ≤ gb175)); have n5_ := Aside0.mk ((by rw [hg]; exact (below_size (by repeat (first | (with_reducible first | exact HB.out | apply below_alloc | apply pw_below_drewN | apply below_drew1) | exact HB.out))) : w.heap.size ≤ gb175)); clear HO_4; clear HO_20; clear HB; have HO_4 := n0_; have HO_20 := n1_; have HB := n2_; have BK175 := n3_; have GW175 := n4_; have GE175 := n5_; clear n0_ n1_ n2_ n3_ n4_ n5_; clear hb hbox hg; have hcz10_0 : w9.cell? ⟨gb175, 0, none⟩ = some (.string (⟨#[]⟩ : ByteArray)) := (blk_cell BK175.out 0).trans rfl; have hcz10_1 : w9.cell? ⟨gb175, 1, none⟩ = some (.int .i64 0) := (blk_cell BK175.out 1).trans rfl; have hfz10_0 := blk_frozen BK175.out 0; have hfz10_1 := blk_frozen BK175.out 1))
            go_roundg k1
            case measure => have := HK1.out; omega
            case rel => exact ⟨(wrap64 (x5_1 + ((rd_T29 t170 x22_1).f1))), (wrap64 (x22_1 + 1)), (by first | rfl | (simp; done) | (simp [*]; done)), (by first | rfl | (simp; done) | (simp [*]; done)), H', ⟨by have := HK1.out; omega⟩, ⟨by (with_reducible repeat (first | apply Kd.R_alloc | apply Kd.R_drewN | apply Kd.R_drew)); exact Kd.R_mono (Kd.R_far (p := ⟨gb175, 1, none⟩) (Kd.R_far (p := ⟨gb175, 0, none⟩) (Kd.R_mono HO_4.out (fun k_ hk => (⟨hk, hk.2⟩ : _ ∧ k_ ≠ gb175))) (fun _ hk => hk.2) (.string ((rd_T29 t170 x22_1).f0))) (fun _ hk => hk.2) (.int .i64 ((rd_T29 t170 x22_1).f1))) (fun _ hk => trivial)⟩, ⟨by (with_reducible repeat (first | apply Kd.R_alloc | apply Kd.R_drewN | apply Kd.R_drew)); exact Kd.R_mono (Kd.R_far (p := ⟨gb175, 1, none⟩) (Kd.R_far (p := ⟨gb175, 0, none⟩) (Kd.R_mono HO_20.out (fun k_ hk => (⟨hk, hk.2⟩ : _ ∧ k_ ≠ gb175))) (fun _ hk => hk.2) (.string ((rd_T29 t170 x22_1).f0))) (fun _ hk => hk.2) (.int .i64 ((rd_T29 t170 x22_1).f1))) (fun _ hk => trivial)⟩, ⟨by repeat (first | (with_reducible first | exact HB.out | apply below_alloc | apply pw_below_drewN | apply below_drew1 | refine below_set ?_ GE175.out) | exact HB.out)⟩⟩
          · rw [if_neg c8] at H
            exact absurd H (by simp)
        · rw [if_neg c7] at H
          exact absurd H (by simp)
      · rw [if_neg c6] at H
        have c6b0 : decide (x22_1 < (t170.length : Int)) = false := decide_eq_false c6
        clear c6
        replace H := Option.bind_eq_some_iff.mp H
        obtain ⟨⟨t176, t177⟩, A110, H⟩ := H
        replace H : (if t177 = 0 then (gatekeep2_RoundsAreFair.j1 k1 t170 x5_1 t176 ((t176.length : Int) != (wrap64 (2 * x5_1)))) else (gatekeep2_RoundsAreFair.j1 k1 t170 x5_1 t176 true)) = some r := H
        have A11 := Aside0.mk A110
        clear A110
        have HC12 := Aside0.mk H
        clear H
        go_upto_region 10 with (first | ((with_reducible refine gate_callee (f := 7) rfl ?_); refine goesL_ (some 35) rfl rfl Tryz.func7 (by kernel_rfl) rfl #[.slice Ao5 t170.length co5, .int .i64 (wrap64 (2 * x5_1))] rfl (by (try simp only [List.map_toArray, List.map_cons, List.map_nil]); first | done | rfl | (simp only [List.length_drop, List.length_take]; rfl)) ?_; (with_reducible refine (upstream_Round.calls k1 _ _ t170 (wrap64 (2 * x5_1)) t176 t177 _ ?side1 ?side2 A11.out).mono ?_); (case side1 => repeat (first | exact (Kd.R_reads' HO_4.out).2.2 | (with_reducible refine Kd.C_alloc ?_ _) | (with_reducible refine Kd.C_drewN ?_ _) | (with_reducible refine Kd.C_drew ?_))); (case side2 => exact (Kd.R_reads' HO_4.out).2.1); rintro e w13 ⟨v178, rfl, ho0, hb⟩; refine ⟨_, rfl, ?_⟩; have n0_ := Aside0.mk (Kd.R_below (by (with_reducible repeat (first | apply Kd.R_alloc | apply Kd.R_drewN | apply Kd.R_drew)); exact HO_4.out) hb); have n1_ := Aside0.mk (Kd.R_below (by (with_reducible repeat (first | apply Kd.R_alloc | apply Kd.R_drewN | apply Kd.R_drew)); exact HO_20.out) hb); have n2_ := Aside0.mk (Kd.R_lower ho0 (below_size (by repeat (first | (with_reducible first | exact HB.out | apply below_alloc | apply pw_below_drewN | apply below_drew1) | exact HB.out)))); have n3_ := Aside0.mk (below_step (by repeat (first | (with_reducible first | exact HB.out | apply below_alloc | apply pw_below_drewN | apply below_drew1) | exact HB.out)) hb); clear HO_4; clear HO_20; clear HB; have HO_4 := n0_; have HO_20 := n1_; have HO179 := n2_; have HB := n3_; clear n0_ n1_ n2_ n3_; (try clear hb); (try clear hb2); (try clear hk); (try clear hi); (try clear ho0)))
        (try simp only [Act.put, List.setIfInBounds_toArray, List.set_cons_zero, List.set_cons_succ])
        go_cut [46] (fun v46 wc => ∃ (kq : Nat) (x46_11 : Bool), v46 = .bool x46_11 ∧ Aside0 (gatekeep2_RoundsAreFair.j1 kq t170 x5_1 t176 x46_11 = some r) ∧ Aside0 (kq ≤ k1) ∧ Aside0 (Kd.R k29 29 wc w.heap.size (fun _ => True) (.slice Ao5 t170.length co5) t170) ∧ Aside0 (Kd.R Kd.string 9 wc w.heap.size (fun _ => True) v178 t176) ∧ Aside0 (Below w.heap.size w wc))
        case first =>
          have H := HC12.out
          clear HC12
          by_cases c14 : t177 = 0
          · rw [if_pos c14] at H
            have c14b0 : (t177 == 0) = true := beq_iff_eq.mpr c14
            have c14b1 : (t177 != 0) = false := bne_eq_false_iff_eq.mpr c14
            clear c14
            (first | rw [c14b0] | (simp only [i64_w, i32_w]; rw [c14b0]) | skip)
            have H' := Aside0.mk H
            clear H
            obtain ⟨Ao15, co15, eo15⟩ := Kd.R_slice HO179.out
            subst eo15
            go_wp2
            go_meet
            case rel => exact ⟨_, (((t176.length : Int) != (wrap64 (2 * x5_1)))), (by first | rfl | (simp; done) | (simp [*]; done)), H', ⟨by have := HK1.out; first | omega | exact Nat.le_refl _⟩, ⟨by (with_reducible repeat (first | apply Kd.R_alloc | apply Kd.R_drewN | apply Kd.R_drew)); exact HO_4.out⟩, ⟨by (with_reducible repeat (first | apply Kd.R_alloc | apply Kd.R_drewN | apply Kd.R_drew)); exact HO179.out⟩, ⟨by repeat (first | (with_reducible first | exact HB.out | apply below_alloc | apply pw_below_drewN | apply below_drew1) | exact HB.out)⟩⟩
          · rw [if_neg c14] at H
            have c14b0 : (t177 == 0) = false := beq_eq_false_iff_ne.mpr c14
            have c14b1 : (t177 != 0) = true := bne_iff_ne.mpr c14
            (first | rw [c14b0] | (simp only [i64_w, i32_w]; rw [c14b0]) | skip)
            have H' := Aside0.mk H
            clear H
            go_wp2
            go_meet
            case rel => exact ⟨_, (true), (by first | rfl | (simp; done) | (simp [*]; done)), H', ⟨by have := HK1.out; first | omega | exact Nat.le_refl _⟩, ⟨by (with_reducible repeat (first | apply Kd.R_alloc | apply Kd.R_drewN | apply Kd.R_drew)); exact HO_4.out⟩, ⟨by (with_reducible repeat (first | apply Kd.R_alloc | apply Kd.R_drewN | apply Kd.R_drew)); exact HO179.out⟩, ⟨by repeat (first | (with_reducible first | exact HB.out | apply below_alloc | apply pw_below_drewN | apply below_drew1) | exact HB.out)⟩⟩
        case rest =>
          clear HC12
          try clear c1
          try clear p1
          try clear q1
          try clear hx1
          try clear p2
          try clear c3
          try clear c6
          try clear c6b0
          try clear p6
          try clear c7
          try clear c7b0
          try clear c8
          try clear c8b0
          try clear c14
          try clear c14b0
          try clear c14b1
          try clear hcz10_0
          try clear hcz10_1
          try clear hfz10_0
          try clear hfz10_1
          try clear hx174_0
          try clear hx174_1
          try clear p174
          try clear p2
          try clear q174
          obtain ⟨kq, x46_11, rfl, HA, HJ11, HO_4, HO_8, HB⟩ := hcut
          cases kq with
          | zero => exact absurd HA.out (by simp [gatekeep2_RoundsAreFair.j1])
          | succ kj11 =>
            have H := HA.out
            clear HA
            simp only [gatekeep2_RoundsAreFair.j1] at H
            by_cases c16 : x46_11 = true
            · subst c16
              have H1 : (some false) = some r := by rw [if_pos rfl] at H; exact H
              clear H
              have H := H1
              clear H1
              obtain rfl := Option.some.inj H
              go_wp2
              go_ret
              exact ⟨by first | rfl | (simp [errW_none, errW_some] <;> rfl) | (simp [*, errW_none, errW_some] <;> rfl), by repeat (first | (with_reducible first | exact HB.out | apply below_alloc | apply pw_below_drewN | apply below_drew1) | exact HB.out)⟩
            · replace c16 := Bool.eq_false_iff.mpr c16
              subst c16
              have H1 : (gatekeep2_RoundsAreFair.l1 kj11 x5_1 t176 t170 (t170.length : Int) 0) = some r := by rw [if_neg (show ¬ (false = true) by decide)] at H; exact H
              clear H
              have H := H1
              clear H1
              have H' := Aside0.mk H
              clear H
              go_wp2
              go_loopg [49] kj11 (fun kq v49 w' => ∃ (x49_3 : Int), v49 = .int .i64 x49_3 ∧ Aside0 (gatekeep2_RoundsAreFair.l1 kq x5_1 t176 t170 (t170.length : Int) x49_3 = some r) ∧ Aside0 (kq ≤ kj11) ∧ Aside0 (Kd.R Kd.string 9 w' w.heap.size (fun _ => True) v178 t176) ∧ Aside0 (Kd.R k29 29 w' w.heap.size (fun _ => True) (.slice Ao5 t170.length co5) t170) ∧ Aside0 (Below w.heap.size w w'))
              case atStart => exact ⟨(0), (by first | rfl | (simp; done) | (simp [*]; done)), H', ⟨Nat.le_refl _⟩, ⟨by (with_reducible repeat (first | apply Kd.R_alloc | apply Kd.R_drewN | apply Kd.R_drew)); exact HO_8.out⟩, ⟨by (with_reducible repeat (first | apply Kd.R_alloc | apply Kd.R_drewN | apply Kd.R_drew)); exact HO_4.out⟩, ⟨by repeat (first | (with_reducible first | exact HB.out | apply below_alloc | apply pw_below_drewN | apply below_drew1) | exact HB.out)⟩⟩
              case round =>
                clear H'
                try clear c1
                try clear p1
                try clear q1
                try clear hx1
                try clear p2
                try clear c3
                try clear c6
                try clear c6b0
                try clear p6
                try clear c7
                try clear c7b0
                try clear c8
                try clear c8b0
                try clear c14
                try clear c14b0
                try clear c14b1
                try clear c16
                try clear hcz10_0
                try clear hcz10_1
                try clear hfz10_0
                try clear hfz10_1
                try clear hx174_0
                try clear hx174_1
                try clear p1
                try clear p174
                try clear p2
                try clear p6
                try clear q1
                try clear q174
                obtain ⟨x49_3, rfl, HA, HK3, HO_8, HO_47, HB⟩ := hrel
                cases gk with
                | zero => exact absurd HA.out (by simp [gatekeep2_RoundsAreFair.l1])
                | succ k3 =>
                  have H := HA.out
                  clear HA
                  simp only [gatekeep2_RoundsAreFair.l1] at H
                  by_cases c17 : x49_3 < (t170.length : Int)
                  · rw [if_pos c17] at H
                    have c17b0 : decide (x49_3 < (t170.length : Int)) = true := decide_eq_true c17
                    clear c17
                    by_cases c18 : 0 ≤ x49_3
                    · rw [if_pos c18] at H
                      have c18b0 : decide (0 ≤ x49_3) = true := decide_eq_true c18
                      clear c18
                      by_cases c19 : x49_3 < (t170.length : Int)
                      · rw [if_pos c19] at H
                        have c19b0 : decide (x49_3 < (t170.length : Int)) = true := decide_eq_true c19
                        clear c19
                        by_cases c20 : 0 ≤ x5_1
                        · rw [if_pos c20] at H
                          have c20b0 := eq_true c20
                          have c20b1 : decide (0 ≤ x5_1) = true := decide_eq_true c20
                          clear c20
                          by_cases c21 : x5_1 ≤ (t176.length : Int)
                          · rw [if_pos c21] at H
                            have c21b0 := eq_true c21
                            have c21b1 : decide (x5_1 ≤ (t176.length : Int)) = true := decide_eq_true c21
                            clear c21
                            obtain ⟨y192, hy192⟩ : ∃ y_ : List ByteArray, y_ = (t176.take (x5_1 : Int).toNat) := ⟨_, rfl⟩
                            replace H : (gatekeep2_RoundsAreFair.l2 k3 x5_1 t176 0 t170 (t170.length : Int) x49_3 y192 (y192.length : Int) 0 ((rd_T29 t170 x49_3).f0) ((rd_T29 t170 x49_3).f1)) = some r := by first | (rw [hy192]; with_reducible exact H) | (have H2_ := (Option.bind_some _ _).symm.trans H; rw [hy192]; with_reducible exact H2_) | (have H2_ := (Option.bind_some _ _).symm.trans H; with_reducible exact H2_) | with_reducible exact H | (rw [hy192]; exact H) | exact H
                            have Ny192 := Aside0.mk hy192
                            clear hy192
                            have H' := Aside0.mk H
                            clear H
                            have p190 : 0 ≤ (x49_3 : Int) := of_decide_eq_true (by first | (with_reducible assumption) | assumption)
                            have q190 : x49_3 < (t170.length : Int) := of_decide_eq_true (by first | (with_reducible assumption) | assumption)
                            obtain ⟨ad190, e190, hx190_0, hx190_1⟩ := at_T29 (Kd.R_reads' HO_47.out).2.2 x49_3 p190 q190
                            cases e190
                            replace p190 := eq_true p190
                            replace q190 := eq_true q190
                            go_wp2_with (first | ((with_reducible refine gate_dst (N := 11) rfl ?_); (try (refine gate_guard (by rfl) ?_; dsimp only)); refine box_event ?hg (N := 11) ?hd (cs := #[.string (⟨#[]⟩ : ByteArray), .int .i64 0]) (t := 29) ?hr ?_; (case hd => rfl); (case hg => rfl); (case hr => first | (go_simp; done) | (go_simp; rfl)); intro gb191 hg w22 hbox hb; have n0_ := Aside0.mk (Kd.R_below (by (with_reducible repeat (first | apply Kd.R_alloc | apply Kd.R_drewN | apply Kd.R_drew)); exact HO_8.out) hb); have n1_ := Aside0.mk (Kd.R_below (Kd.R_elderB (by (with_reducible repeat (first | apply Kd.R_alloc | apply Kd.R_drewN | apply Kd.R_drew)); exact HO_47.out) gb191 (Nat.le_of_eq hg.symm)) hb); have n2_ := Aside0.mk (below_step (by repeat (first | (with_reducible first | exact HB.out | apply below_alloc | apply pw_below_drewN | apply below_drew1) | exact HB.out)) hb); have n3_ := Aside0.mk (hbox); have n4_ := Aside0.mk ((by rw [hg]; exact (below_size (by repeat (first | (with_reducible first | exact HB.out | apply below_alloc | apply pw_below_drewN | apply below_drew1) | exact HB.out))) : w.heap.size ≤ gb191)); have n5_ := Aside0.mk ((by rw [hg]; exact (below_size (by repeat (first | (with_reducible first | exact HB.out | apply below_alloc | apply pw_below_drewN | apply below_drew1) | exact HB.out))) : w.heap.size ≤ gb191)); clear HO_8; clear HO_47; clear HB; have HO_8 := n0_; have HO_47 := n1_; have HB := n2_; have BK191 := n3_; have GW191 := n4_; have GE191 := n5_; clear n0_ n1_ n2_ n3_ n4_ n5_; clear hb hbox hg; have hcz23_0 : w22.cell? ⟨gb191, 0, none⟩ = some (.string (⟨#[]⟩ : ByteArray)) := (blk_cell BK191.out 0).trans rfl; have hcz23_1 : w22.cell? ⟨gb191, 1, none⟩ = some (.int .i64 0) := (blk_cell BK191.out 1).trans rfl; have hfz23_0 := blk_frozen BK191.out 0; have hfz23_1 := blk_frozen BK191.out 1) | ((with_reducible refine gate_store (t := 29) (p := 11) rfl ?_); refine store_event (t := 29) (p := 11) (v := ?vo_w24) (w1 := ((w22.setCell ⟨gb191, 0, none⟩ (.string ((rd_T29 t170 x49_3).f0))).setCell ⟨gb191, 1, none⟩ (.int .i64 ((rd_T29 t170 x49_3).f1)))) ?hg ?ho ?hn ?hr ?_; (case ho => rfl); (case hg => rfl); (case hn => rfl); (case hr => first | (go_simp; done) | (go_simp; rfl)); intro w24 hw; have n0_ : Aside0 (Kd.R Kd.string 9 w24 w.heap.size (fun _ => True) v178 t176) := ⟨(by rw [hw]; exact (by (with_reducible repeat (first | apply Kd.R_alloc | apply Kd.R_drewN | apply Kd.R_drew)); exact Kd.R_mono (Kd.R_far (p := ⟨gb191, 1, none⟩) (Kd.R_far (p := ⟨gb191, 0, none⟩) (Kd.R_types HO_8.out BK191.out (by decide)) (fun _ hk => hk.2) (.string ((rd_T29 t170 x49_3).f0))) (fun _ hk => hk.2) (.int .i64 ((rd_T29 t170 x49_3).f1))) (fun _ hk => trivial)))⟩; have n1_ : Aside0 (Kd.R k29 29 w24 w.heap.size (fun k_ => k_ ≠ gb191) (.slice (some ad190) t170.length co5) t170) := ⟨(by rw [hw]; exact (by (with_reducible repeat (first | apply Kd.R_alloc | apply Kd.R_drewN | apply Kd.R_drew)); exact Kd.R_mono (Kd.R_far (p := ⟨gb191, 1, none⟩) (Kd.R_far (p := ⟨gb191, 0, none⟩) (Kd.R_mono HO_47.out (fun k_ hk => (⟨hk, hk.2⟩ : _ ∧ k_ ≠ gb191))) (fun _ hk => hk.2) (.string ((rd_T29 t170 x49_3).f0))) (fun _ hk => hk.2) (.int .i64 ((rd_T29 t170 x49_3).f1))) (fun _ hk => hk.1.2)))⟩; have n2_ : Aside0 (w24.heap[gb191]? = some (.cells #[.string ((rd_T29 t170 x49_3).f0), .int .i64 ((rd_T29 t170 x49_3).f1)] 29 (0, 0))) := ⟨(by rw [hw]; exact (by (with_reducible repeat (first | refine blk_drewN ?_ _ | refine blk_drew ?_ | refine blk_alloc ?_ _)); refine blk_put (cs := #[.string ((rd_T29 t170 x49_3).f0), .int .i64 0]) ?_ 1 _ rfl; (with_reducible repeat (first | refine blk_drewN ?_ _ | refine blk_drew ?_ | refine blk_alloc ?_ _)); refine blk_put (cs := #[.string (⟨#[]⟩ : ByteArray), .int .i64 0]) ?_ 0 _ rfl; (with_reducible repeat (first | refine blk_drewN ?_ _ | refine blk_drew ?_ | refine blk_alloc ?_ _)); exact BK191.out))⟩; have n3_ : Aside0 (Below w.heap.size w w24) := ⟨(by rw [hw]; exact (by repeat (first | (with_reducible first | exact HB.out | apply below_alloc | apply pw_below_drewN | apply below_drew1 | refine below_set ?_ GE191.out) | exact HB.out)))⟩; clear hw; clear HO_8; clear HO_47; clear BK191; clear HB; have HO_8 := n0_; have HO_47 := n1_; have BK191 := n2_; have HB := n3_; clear n0_ n1_ n2_ n3_; obtain ⟨Ao26, co26, eo26⟩ := Kd.R_slice HO_8.out; subst eo26; have q25 : (x5_1 : Int) ≤ ((t176.length : Int) : Int) := of_decide_eq_true (by first | (with_reducible assumption) | assumption); obtain ⟨i025, hi025, _, hsz25, _⟩ := info_parts info9; have hroom25 : t176.length ≤ co26 := (Kd.R_reads' HO_8.out).2.1; have hC25 : Kd.C Kd.string _ Ao26 t176.length t176 := (Kd.R_reads' HO_8.out).2.2; have hcut25 := cut_to (P := Tryz.prog) 30 9 .i64 Tryz.underlying30 hi025 Ao26 t176.length co26 x5_1 (of_decide_eq_true (by first | (with_reducible assumption) | assumption)) q25 hroom25; have hr25 := Kd.C_take (m := (x5_1 : Int).toNat) hC25 (by omega); have hy25 : y192.length = (x5_1 : Int).toNat := (by rw [Ny192.out, List.length_take]; omega); rw [← Ny192.out] at hr25; rw [← hy25] at hcut25; have HR195 := Aside0.mk hr25; have HC195 := Aside0.mk (show y192.length ≤ co26 from by omega); clear hr25 hC25 hroom25 hi025 hsz25; have KY25 := Aside0.mk hy25; clear hy25; have KL25 := Aside0.mk (show (x5_1 : Int).toNat ≤ t176.length from by omega); replace q25 := eq_true q25))
                            go_loopg [12, 57] k3 (fun kq v12 v57 w' => ∃ (x12_4 : Int) (x57_4 : Int), v12 = .int .i64 x12_4 ∧ v57 = .int .i64 x57_4 ∧ Aside0 (gatekeep2_RoundsAreFair.l2 kq x5_1 t176 x12_4 t170 (t170.length : Int) x49_3 y192 (y192.length : Int) x57_4 ((rd_T29 t170 x49_3).f0) ((rd_T29 t170 x49_3).f1) = some r) ∧ Aside0 (kq ≤ k3) ∧ Aside0 (Kd.R Kd.string 9 w' w.heap.size (fun _ => True) (.slice Ao26 t176.length co26) t176) ∧ Aside0 (Kd.R k29 29 w' w.heap.size (fun k_ => k_ ≠ gb191) (.slice (some ad190) t170.length co5) t170) ∧ Aside0 (w'.heap[gb191]? = some (.cells #[.string ((rd_T29 t170 x49_3).f0), .int .i64 ((rd_T29 t170 x49_3).f1)] 29 (0, 0))) ∧ Aside0 (Kd.C Kd.string w' Ao26 y192.length y192) ∧ Aside0 (Below w.heap.size w w'))
                            case atStart => exact ⟨(0), (0), (by first | rfl | (simp; done) | (simp [*]; done)), (by first | rfl | (simp; done) | (simp [*]; done)), H', ⟨Nat.le_refl _⟩, ⟨by (with_reducible repeat (first | apply Kd.R_alloc | apply Kd.R_drewN | apply Kd.R_drew)); exact HO_8.out⟩, ⟨by (with_reducible repeat (first | apply Kd.R_alloc | apply Kd.R_drewN | apply Kd.R_drew)); exact HO_47.out⟩, ⟨by (with_reducible repeat (first | refine blk_drewN ?_ _ | refine blk_drew ?_ | refine blk_alloc ?_ _)); exact BK191.out⟩, ⟨by repeat (first | (with_reducible exact HR195.out) | (with_reducible refine Kd.C_alloc ?_ _) | (with_reducible refine Kd.C_drewN ?_ _) | (with_reducible refine Kd.C_drew ?_) | exact HR195.out)⟩, ⟨by repeat (first | (with_reducible first | exact HB.out | apply below_alloc | apply pw_below_drewN | apply below_drew1 | refine below_set ?_ GE191.out) | exact HB.out)⟩⟩
                            case round =>
                              clear H'
                              try clear c1
                              try clear p1
                              try clear q1
                              try clear hx1
                              try clear c2
                              try clear p2
                              try clear q2
                              try clear c3
                              try clear c6
                              try clear c6b0
                              try clear p6
                              try clear c7
                              try clear c7b0
                              try clear c8
                              try clear c8b0
                              try clear c14
                              try clear c14b0
                              try clear c14b1
                              try clear c16
                              try clear c17
                              try clear c17b0
                              try clear p17
                              try clear q17
                              try clear hx17
                              try clear c18
                              try clear c18b0
                              try clear c19
                              try clear c19b0
                              try clear p19
                              try clear q19
                              try clear hx19
                              try clear c20
                              try clear c20b0
                              try clear c20b1
                              try clear c21
                              try clear c21b0
                              try clear c21b1
                              try clear q25
                              try clear hcz10_0
                              try clear hcz10_1
                              try clear hcz23_0
                              try clear hcz23_1
                              try clear hfz10_0
                              try clear hfz10_1
                              try clear hfz23_0
                              try clear hfz23_1
                              try clear hx174_0
                              try clear hx174_1
                              try clear hx190_0
                              try clear hx190_1
                              try clear p1
                              try clear p174
                              try clear p190
                              try clear p2
                              try clear p6
                              try clear q1
                              try clear q174
                              try clear q190
                              try clear q25
                              obtain ⟨x12_4, x57_4, rfl, rfl, HA, HK4, HO_8, HO_47, BK191, HR195, HB⟩ := hrel
                              cases gk with
                              | zero => exact absurd HA.out (by simp [gatekeep2_RoundsAreFair.l2])
                              | succ k4 =>
                                have H := HA.out
                                clear HA
                                simp only [gatekeep2_RoundsAreFair.l2] at H
                                by_cases c27 : x57_4 < (y192.length : Int)
                                · rw [if_pos c27] at H
                                  have c27b0 : decide (x57_4 < (y192.length : Int)) = true := decide_eq_true c27
                                  clear c27
                                  by_cases c28 : 0 ≤ x57_4
                                  · rw [if_pos c28] at H
                                    have c28b0 : decide (0 ≤ x57_4) = true := decide_eq_true c28
                                    clear c28
                                    by_cases c29 : x57_4 < (y192.length : Int)
                                    · rw [if_pos c29] at H
                                      have c29b0 : decide (x57_4 < (y192.length : Int)) = true := decide_eq_true c29
                                      clear c29
                                      by_cases c30 : (rdOf ByteArray.empty y192 x57_4).toList = ((rd_T29 t170 x49_3).f0).toList
                                      · rw [if_pos c30] at H
                                        have c30b0 : ((rdOf ByteArray.empty y192 x57_4).toList == ((rd_T29 t170 x49_3).f0).toList) = true := beq_iff_eq.mpr c30
                                        have c30b1 : ((rdOf ByteArray.empty y192 x57_4).toList != ((rd_T29 t170 x49_3).f0).toList) = false := bne_eq_false_iff_eq.mpr c30
                                        clear c30
                                        have H' := Aside0.mk H
                                        clear H
                                        have p196 : 0 ≤ (x57_4 : Int) := of_decide_eq_true (by first | (with_reducible assumption) | assumption)
                                        have q196 : x57_4 < (y192.length : Int) := of_decide_eq_true (by first | (with_reducible assumption) | assumption)
                                        obtain ⟨ad196, e196, hx196_0⟩ := Kd.at_string (by repeat (first | (with_reducible exact HR195.out) | (with_reducible refine Kd.C_alloc ?_ _) | (with_reducible refine Kd.C_drewN ?_ _) | (with_reducible refine Kd.C_drew ?_) | exact HR195.out)) x57_4 p196 q196
                                        cases e196
                                        replace p196 := eq_true p196
                                        replace q196 := eq_true q196
                                        have hcz31_0 : wr.cell? ⟨gb191, 0, none⟩ = some (.string ((rd_T29 t170 x49_3).f0)) := (blk_cell BK191.out 0).trans rfl
                                        have hcz31_1 : wr.cell? ⟨gb191, 1, none⟩ = some (.int .i64 ((rd_T29 t170 x49_3).f1)) := (blk_cell BK191.out 1).trans rfl
                                        have hfz31_0 := blk_frozen BK191.out 0
                                        have hfz31_1 := blk_frozen BK191.out 1
                                        go_wp2
                                        go_roundg k4
                                        case measure => have := HK1.out; have := HJ11.out; have := HK3.out; have := HK4.out; omega
                                        case rel => exact ⟨(wrap64 (x12_4 + 1)), (wrap64 (x57_4 + 1)), (by first | rfl | (simp; done) | (simp [*]; done)), (by first | rfl | (simp; done) | (simp [*]; done)), H', ⟨by have := HK1.out; have := HJ11.out; have := HK3.out; have := HK4.out; omega⟩, ⟨by (with_reducible repeat (first | apply Kd.R_alloc | apply Kd.R_drewN | apply Kd.R_drew)); exact HO_8.out⟩, ⟨by (with_reducible repeat (first | apply Kd.R_alloc | apply Kd.R_drewN | apply Kd.R_drew)); exact HO_47.out⟩, ⟨by (with_reducible repeat (first | refine blk_drewN ?_ _ | refine blk_drew ?_ | refine blk_alloc ?_ _)); exact BK191.out⟩, ⟨by repeat (first | (with_reducible exact HR195.out) | (with_reducible refine Kd.C_alloc ?_ _) | (with_reducible refine Kd.C_drewN ?_ _) | (with_reducible refine Kd.C_drew ?_) | exact HR195.out)⟩, ⟨by repeat (first | (with_reducible first | exact HB.out | apply below_alloc | apply pw_below_drewN | apply below_drew1 | refine below_set ?_ GE191.out) | exact HB.out)⟩⟩
                                      · rw [if_neg c30] at H
                                        have c30b0 : ((rdOf ByteArray.empty y192 x57_4).toList == ((rd_T29 t170 x49_3).f0).toList) = false := beq_eq_false_iff_ne.mpr c30
                                        have c30b1 : ((rdOf ByteArray.empty y192 x57_4).toList != ((rd_T29 t170 x49_3).f0).toList) = true := bne_iff_ne.mpr c30
                                        have H' := Aside0.mk H
                                        clear H
                                        have p196 : 0 ≤ (x57_4 : Int) := of_decide_eq_true (by first | (with_reducible assumption) | assumption)
                                        have q196 : x57_4 < (y192.length : Int) := of_decide_eq_true (by first | (with_reducible assumption) | assumption)
                                        obtain ⟨ad196, e196, hx196_0⟩ := Kd.at_string (by repeat (first | (with_reducible exact HR195.out) | (with_reducible refine Kd.C_alloc ?_ _) | (with_reducible refine Kd.C_drewN ?_ _) | (with_reducible refine Kd.C_drew ?_) | exact HR195.out)) x57_4 p196 q196
                                        cases e196
                                        replace p196 := eq_true p196
                                        replace q196 := eq_true q196
                                        have hcz32_0 : wr.cell? ⟨gb191, 0, none⟩ = some (.string ((rd_T29 t170 x49_3).f0)) := (blk_cell BK191.out 0).trans rfl
                                        have hcz32_1 : wr.cell? ⟨gb191, 1, none⟩ = some (.int .i64 ((rd_T29 t170 x49_3).f1)) := (blk_cell BK191.out 1).trans rfl
                                        have hfz32_0 := blk_frozen BK191.out 0
                                        have hfz32_1 := blk_frozen BK191.out 1
                                        go_wp2
                                        go_roundg k4
                                        case measure => have := HK1.out; have := HJ11.out; have := HK3.out; have := HK4.out; omega
                                        case rel => exact ⟨(x12_4), (wrap64 (x57_4 + 1)), (by first | rfl | (simp; done) | (simp [*]; done)), (by first | rfl | (simp; done) | (simp [*]; done)), H', ⟨by have := HK1.out; have := HJ11.out; have := HK3.out; have := HK4.out; omega⟩, ⟨by (with_reducible repeat (first | apply Kd.R_alloc | apply Kd.R_drewN | apply Kd.R_drew)); exact HO_8.out⟩, ⟨by (with_reducible repeat (first | apply Kd.R_alloc | apply Kd.R_drewN | apply Kd.R_drew)); exact HO_47.out⟩, ⟨by (with_reducible repeat (first | refine blk_drewN ?_ _ | refine blk_drew ?_ | refine blk_alloc ?_ _)); exact BK191.out⟩, ⟨by repeat (first | (with_reducible exact HR195.out) | (with_reducible refine Kd.C_alloc ?_ _) | (with_reducible refine Kd.C_drewN ?_ _) | (with_reducible refine Kd.C_drew ?_) | exact HR195.out)⟩, ⟨by repeat (first | (with_reducible first | exact HB.out | apply below_alloc | apply pw_below_drewN | apply below_drew1 | refine below_set ?_ GE191.out) | exact HB.out)⟩⟩
                                    · rw [if_neg c29] at H
                                      exact absurd H (by simp)
                                  · rw [if_neg c28] at H
                                    exact absurd H (by simp)
                                · rw [if_neg c27] at H
                                  have c27b0 : decide (x57_4 < (y192.length : Int)) = false := decide_eq_false c27
                                  clear c27
                                  by_cases c33 : x12_4 = ((rd_T29 t170 x49_3).f1)
                                  · rw [if_pos c33] at H
                                    have c33b0 : (x12_4 == ((rd_T29 t170 x49_3).f1)) = true := beq_iff_eq.mpr c33
                                    have c33b1 : (x12_4 != ((rd_T29 t170 x49_3).f1)) = false := bne_eq_false_iff_eq.mpr c33
                                    clear c33
                                    have H' := Aside0.mk H
                                    clear H
                                    have hcz34_0 : wr.cell? ⟨gb191, 0, none⟩ = some (.string ((rd_T29 t170 x49_3).f0)) := (blk_cell BK191.out 0).trans rfl
                                    have hcz34_1 : wr.cell? ⟨gb191, 1, none⟩ = some (.int .i64 ((rd_T29 t170 x49_3).f1)) := (blk_cell BK191.out 1).trans rfl
                                    have hfz34_0 := blk_frozen BK191.out 0
                                    have hfz34_1 := blk_frozen BK191.out 1
                                    go_wp2
                                    go_roundg k4
                                    case measure => have := HK1.out; have := HJ11.out; have := HK3.out; have := HK4.out; omega
                                    case rel => exact ⟨(wrap64 (x49_3 + 1)), (by first | rfl | (simp; done) | (simp [*]; done)), H', ⟨by have := HK1.out; have := HJ11.out; have := HK3.out; have := HK4.out; omega⟩, ⟨by (with_reducible repeat (first | apply Kd.R_alloc | apply Kd.R_drewN | apply Kd.R_drew)); exact HO_8.out⟩, ⟨by (with_reducible repeat (first | apply Kd.R_alloc | apply Kd.R_drewN | apply Kd.R_drew)); exact Kd.R_mono HO_47.out (fun _ hk => trivial)⟩, ⟨by repeat (first | (with_reducible first | exact HB.out | apply below_alloc | apply pw_below_drewN | apply below_drew1 | refine below_set ?_ GE191.out) | exact HB.out)⟩⟩
                                  · rw [if_neg c33] at H
                                    have c33b0 : (x12_4 == ((rd_T29 t170 x49_3).f1)) = false := beq_eq_false_iff_ne.mpr c33
                                    have c33b1 : (x12_4 != ((rd_T29 t170 x49_3).f1)) = true := bne_iff_ne.mpr c33
                                    obtain rfl := Option.some.inj H
                                    have hcz35_0 : wr.cell? ⟨gb191, 0, none⟩ = some (.string ((rd_T29 t170 x49_3).f0)) := (blk_cell BK191.out 0).trans rfl
                                    have hcz35_1 : wr.cell? ⟨gb191, 1, none⟩ = some (.int .i64 ((rd_T29 t170 x49_3).f1)) := (blk_cell BK191.out 1).trans rfl
                                    have hfz35_0 := blk_frozen BK191.out 0
                                    have hfz35_1 := blk_frozen BK191.out 1
                                    go_wp2
                                    go_ret
                                    exact ⟨by first | rfl | (simp [errW_none, errW_some] <;> rfl) | (simp [*, errW_none, errW_some] <;> rfl), by repeat (first | (with_reducible first | exact HB.out | apply below_alloc | apply pw_below_drewN | apply below_drew1 | refine below_set ?_ GE191.out) | exact HB.out)⟩
                          · rw [if_neg c21] at H
                            exact absurd H (by simp)
                        · rw [if_neg c20] at H
                          exact absurd H (by simp)
                      · rw [if_neg c19] at H
                        exact absurd H (by simp)
                    · rw [if_neg c18] at H
                      exact absurd H (by simp)
                  · rw [if_neg c17] at H
                    have c17b0 : decide (x49_3 < (t170.length : Int)) = false := decide_eq_false c17
                    clear c17
                    by_cases c36 : 0 ≤ x5_1
                    · rw [if_pos c36] at H
                      have c36b0 := eq_true c36
                      have c36b1 : decide (0 ≤ x5_1) = true := decide_eq_true c36
                      clear c36
                      by_cases c37 : x5_1 ≤ (t176.length : Int)
                      · rw [if_pos c37] at H
                        have c37b0 := eq_true c37
                        have c37b1 : decide (x5_1 ≤ (t176.length : Int)) = true := decide_eq_true c37
                        clear c37
                        obtain ⟨y180, hy180⟩ : ∃ y_ : List ByteArray, y_ = (t176.take (x5_1 : Int).toNat) := ⟨_, rfl⟩
                        replace H : ((slices_Equal_string_string.f k3 y180 (t176.drop (x5_1 : Int).toNat)).bind fun t188 => (if t188 = true then ((Ext.ready.f).bind fun t189 => (some t189)) else (some false))) = some r := by first | (rw [hy180]; with_reducible exact H) | (have H2_ := (Option.bind_some _ _).symm.trans H; rw [hy180]; with_reducible exact H2_) | (have H2_ := (Option.bind_some _ _).symm.trans H; with_reducible exact H2_) | with_reducible exact H | (rw [hy180]; exact H) | exact H
                        have Ny180 := Aside0.mk hy180
                        clear hy180
                        have c38b0 := eq_true (of_decide_eq_true (by first | (with_reducible assumption) | assumption) : 0 ≤ x5_1)
                        have c39b0 := eq_true (of_decide_eq_true (by first | (with_reducible assumption) | assumption) : x5_1 ≤ (t176.length : Int))
                        obtain ⟨y184, hy184⟩ : ∃ y_ : List ByteArray, y_ = (t176.drop (x5_1 : Int).toNat) := ⟨_, rfl⟩
                        replace H : ((slices_Equal_string_string.f k3 y180 y184).bind fun t188 => (if t188 = true then ((Ext.ready.f).bind fun t189 => (some t189)) else (some false))) = some r := by first | (rw [hy184]; with_reducible exact H) | (have H2_ := (Option.bind_some _ _).symm.trans H; rw [hy184]; with_reducible exact H2_) | (have H2_ := (Option.bind_some _ _).symm.trans H; with_reducible exact H2_) | with_reducible exact H | (rw [hy184]; exact H) | exact H
                        have Ny184 := Aside0.mk hy184
                        clear hy184
                        replace H := Option.bind_eq_some_iff.mp H
                        obtain ⟨t188, A400, H⟩ := H
                        replace H : (if t188 = true then ((Ext.ready.f).bind fun t189 => (some t189)) else (some false)) = some r := H
                        have A40 := Aside0.mk A400
                        clear A400
                        by_cases c41 : t188 = true
                        · subst c41
                          have H1 : ((Ext.ready.f).bind fun t189 => (some t189)) = some r := by rw [if_pos rfl] at H; exact H
                          clear H
                          have H := H1
                          clear H1
                          replace H := Option.bind_eq_some_iff.mp H
                          obtain ⟨t189, A420, H⟩ := H
                          replace H : (some t189) = some r := H
                          have A42 := Aside0.mk A420
                          clear A420
                          obtain rfl := Option.some.inj H
                          try go_wp2
                          have n0_ := Aside0.mk (Kd.R_drew HO_8.out)
                          have n1_ := Aside0.mk (Kd.R_drew HO_47.out)
                          have n2_ := Aside0.mk (below_drew1 HB.out)
                          clear HO_8
                          clear HO_47
                          clear HB
                          have HO_8 := n0_
                          have HO_47 := n1_
                          have HB := n2_
                          clear n0_ n1_ n2_
                          obtain ⟨Ao45, co45, eo45⟩ := Kd.R_slice HO_8.out
                          (first | subst eo45 | (injection eo45 with f1_ f2_ f3_; have f4_ := f1_.symm; have f5_ := f3_.symm; clear f1_ f2_ f3_; subst f4_; subst f5_))
                          have q44 : (x5_1 : Int) ≤ ((t176.length : Int) : Int) := of_decide_eq_true (by first | (with_reducible assumption) | assumption)
                          obtain ⟨i044, hi044, _, hsz44, _⟩ := info_parts info9
                          have hroom44 : t176.length ≤ co45 := (Kd.R_reads' HO_8.out).2.1
                          have hC44 : Kd.C Kd.string _ Ao45 t176.length t176 := (Kd.R_reads' HO_8.out).2.2
                          have hcut44 := cut_to (P := Tryz.prog) 30 9 .i64 Tryz.underlying30 hi044 Ao45 t176.length co45 x5_1 (of_decide_eq_true (by first | (with_reducible assumption) | assumption)) q44 hroom44
                          have hr44 := Kd.C_take (m := (x5_1 : Int).toNat) hC44 (by omega)
                          have hy44 : y180.length = (x5_1 : Int).toNat := (by rw [Ny180.out, List.length_take]; omega)
                          rw [← Ny180.out] at hr44
                          rw [← hy44] at hcut44
                          have HR183 := Aside0.mk hr44
                          have HC183 := Aside0.mk (show y180.length ≤ co45 from by omega)
                          clear hr44 hC44 hroom44 hi044 hsz44
                          have KY44 := Aside0.mk hy44
                          clear hy44
                          have KL44 := Aside0.mk (show (x5_1 : Int).toNat ≤ t176.length from by omega)
                          replace q44 := eq_true q44
                          have q46 : (x5_1 : Int) ≤ ((t176.length : Int) : Int) := of_decide_eq_true (by first | (with_reducible assumption) | assumption)
                          obtain ⟨i046, hi046, _, hsz46, _⟩ := info_parts info9
                          have hroom46 : t176.length ≤ co45 := (Kd.R_reads' HO_8.out).2.1
                          have hC46 : Kd.C Kd.string _ Ao45 t176.length t176 := (Kd.R_reads' HO_8.out).2.2
                          have q046 : (0 : Int) ≤ (x5_1 : Int) := of_decide_eq_true (by first | (with_reducible assumption) | assumption)
                          have hcut46 := cut_from (P := Tryz.prog) 30 9 .i64 Tryz.underlying30 hi046 1 hsz46 Ao45 t176.length co45 x5_1 q046 q46
                          have hr46 := Kd.C_drop (m := (x5_1 : Int).toNat) (c := co45) hC46 (by omega) hroom46
                          obtain ⟨A46, hA46⟩ : ∃ A1, A1 = (if co45 = (x5_1 : Int).toNat then Ao45 else (Ao45 : Option Addr).map (·.add ((x5_1 : Int).toNat * 1))) := ⟨_, rfl⟩
                          obtain ⟨c46, hc46⟩ : ∃ c1, c1 = co45 - (x5_1 : Int).toNat := ⟨_, rfl⟩
                          have hy46 : y184.length = t176.length - (x5_1 : Int).toNat := (by rw [Ny184.out, List.length_drop] <;> omega)
                          rw [show (t176).drop (x5_1 : Int).toNat = y184 from Ny184.out.symm] at hr46
                          replace hr46 : Kd.C Kd.string _ A46 y184.length y184 := (by rw [hA46]; exact hr46)
                          rw [← hy46, ← hA46, ← hc46] at hcut46
                          have HR187 := Aside0.mk hr46
                          have HC187 := Aside0.mk (show y184.length ≤ c46 from by rw [hy46, hc46]; exact Nat.sub_le_sub_right hroom46 _)
                          clear hr46 hC46 hroom46 hi046 hsz46 hc46
                          have KY46 := Aside0.mk hy46
                          have KA46 := Aside0.mk hA46
                          clear hy46 hA46
                          have KL46 := Aside0.mk (show (x5_1 : Int).toNat ≤ t176.length from by omega)
                          replace q46 := eq_true q46
                          refine start_ (n := 11) (S := fun w' => True) (ds := []) #[false, false, false, false, false, false, false, false, false, false, false] (by kernel_rfl) rfl rfl trivial (fun hHeld => ?_); refine with_tabW gatekeep2_RoundsAreFair.tab25 gatekeep2_RoundsAreFair.bits25 (fun HT_ HW_ => ?_)
                          generalize wr.drew = w43 at HO_8 HO_47 HB HR183 HR187 hHeld ⊢
                          refine pure_ (i := 0) (N := some 73) (v := ?_) (a' := ?_) #[true, false, false, false, false, false, false, false, false, false, false] rfl rfl (any_of HT_.out (by kernel_rfl)) (fun _ _ _ h => h) (Or.inl ⟨by rfl, ?_⟩) ?_ ?_
                          rotate_left
                          · intro w'
                            go_simp
                            with_reducible rfl
                          rotate_left
                          · simp only [Act.put, List.setIfInBounds_toArray, List.set_cons_zero, List.set_cons_succ, i64_w, i32_w]
                            rfl
                          refine pure_ (i := 1) (N := some 74) (v := ?_) (a' := ?_) #[true, true, false, false, false, false, false, false, false, false, false] rfl rfl (any_of HT_.out (by kernel_rfl)) (fun _ _ _ h => h) (Or.inl ⟨by rfl, ?_⟩) ?_ ?_
                          rotate_left
                          · intro w'
                            go_simp
                            with_reducible rfl
                          rotate_left
                          · simp only [Act.put, List.setIfInBounds_toArray, List.set_cons_zero, List.set_cons_succ, i64_w, i32_w]
                            rfl
                          refine pure_ (i := 2) (N := some 75) (v := ?_) (a' := ?_) #[true, true, true, false, false, false, false, false, false, false, false] rfl rfl (any_of HT_.out (by kernel_rfl)) (fun _ _ _ h => h) (Or.inl ⟨by rfl, ?_⟩) ?_ ?_
                          rotate_left
                          · intro w'
                            go_simp
                            with_reducible rfl
                          rotate_left
                          · simp only [Act.put, List.setIfInBounds_toArray, List.set_cons_zero, List.set_cons_succ, i64_w, i32_w]
                            rfl
                          refine pure_ (i := 3) (N := some 76) (v := ?_) (a' := ?_) #[true, true, true, true, false, false, false, false, false, false, false] rfl rfl (any_of HT_.out (by kernel_rfl)) (fun _ _ _ h => h) (Or.inl ⟨by rfl, ?_⟩) ?_ ?_
                          rotate_left
                          · intro w'
                            go_simp
                            with_reducible rfl
                          rotate_left
                          · simp only [Act.put, List.setIfInBounds_toArray, List.set_cons_zero, List.set_cons_succ, i64_w, i32_w]
                            rfl
                          refine pure_ (i := 4) (N := some 77) (v := ?_) (a' := ?_) #[true, true, true, true, true, false, false, false, false, false, false] rfl rfl (any_of HT_.out (by kernel_rfl)) (fun _ _ _ h => h) (Or.inl ⟨by rfl, ?_⟩) ?_ ?_
                          rotate_left
                          · intro w'
                            go_simp
                            with_reducible rfl
                          rotate_left
                          · simp only [Act.put, List.setIfInBounds_toArray, List.set_cons_zero, List.set_cons_succ, i64_w, i32_w]
                            rfl
                          refine pure_ (i := 5) (N := some 78) (v := ?_) (a' := ?_) #[true, true, true, true, true, true, false, false, false, false, false] rfl rfl (any_of HT_.out (by kernel_rfl)) (fun _ _ _ h => h) (Or.inl ⟨by rfl, ?_⟩) ?_ ?_
                          rotate_left
                          · intro w'
                            go_simp
                            with_reducible rfl
                          rotate_left
                          · simp only [Act.put, List.setIfInBounds_toArray, List.set_cons_zero, List.set_cons_succ, i64_w, i32_w]
                            rfl
                          refine one_ (i := 6) (N := some 79) #[true, true, true, true, true, true, true, false, false, false, false] rfl rfl (one_of HT_.out (by kernel_rfl)) (by decide) (fun K hK => ?_)
                          refine goes_ Tryz.func8 (by kernel_rfl) rfl #[.slice Ao45 y180.length co45, .slice A46 y184.length c46] (by rfl) rfl rfl (by (try simp only [List.map_toArray, List.map_cons, List.map_nil]); first | done | rfl | (simp only [List.length_drop, List.length_take]; rfl)) ?_
                          with_reducible refine (slices_Equal_string_string.calls k3 _ _ y180 _ _ y184 true _ ?side1 ?side2 ?side3 ?side4 A40.out).mono ?_
                          (case side1 => repeat (first | exact (by repeat (first | (with_reducible exact HR183.out) | (with_reducible refine Kd.C_alloc ?_ _) | (with_reducible refine Kd.C_drewN ?_ _) | (with_reducible refine Kd.C_drew ?_) | exact HR183.out)) | (with_reducible refine Kd.C_alloc ?_ _) | (with_reducible refine Kd.C_drewN ?_ _) | (with_reducible refine Kd.C_drew ?_)))
                          (case side2 => exact HC183.out)
                          (case side3 => repeat (first | exact (by repeat (first | (with_reducible exact HR187.out) | (with_reducible refine Kd.C_alloc ?_ _) | (with_reducible refine Kd.C_drewN ?_ _) | (with_reducible refine Kd.C_drew ?_) | exact HR187.out)) | (with_reducible refine Kd.C_alloc ?_ _) | (with_reducible refine Kd.C_drewN ?_ _) | (with_reducible refine Kd.C_drew ?_)))
                          (case side4 => exact HC187.out)
                          rintro e w' ⟨rfl, ⟨nd, rfl⟩⟩
                          refine ⟨_, rfl, ?_⟩
                          refine hK.out _ _ trivial (fun hHeld => ?_)
                          clear hK K
                          refine norm_ (a' := ?_) ?_ ?_
                          rotate_left
                          · show Act.put _ (some 79) _ = _
                            simp only [Act.put, List.setIfInBounds_toArray, List.set_cons_zero, List.set_cons_succ, i64_w, i32_w]
                            rfl
                          refine pure_ (i := 7) (N := some 80) (v := ?_) (a' := ?_) #[true, true, true, true, true, true, true, true, false, false, false] rfl rfl (any_of HT_.out (by kernel_rfl)) (fun _ _ _ h => h) (Or.inl ⟨by rfl, ?_⟩) ?_ ?_
                          rotate_left
                          · intro w'
                            go_simp
                            with_reducible rfl
                          rotate_left
                          · simp only [Act.put, List.setIfInBounds_toArray, List.set_cons_zero, List.set_cons_succ, i64_w, i32_w]
                            rfl
                          refine one_ (i := 8) (N := some 81) #[true, true, true, true, true, true, true, true, true, false, false] rfl rfl (one_of HT_.out (by kernel_rfl)) (by decide) (fun K hK => ?_)
                          refine goes_ Tryz.func9 (by kernel_rfl) rfl #[] (by rfl) rfl rfl (by (try simp only [List.map_toArray, List.map_cons, List.map_nil]); first | done | rfl | (simp only [List.length_drop, List.length_take]; rfl)) ?_
                          with_reducible refine (Ext.ready.calls  t189 _ A42.out).mono ?_
                          rintro e w47 ⟨rfl, hb⟩
                          refine ⟨_, rfl, ?_⟩
                          have n0_ := Aside0.mk (Kd.R_below (by (with_reducible repeat (first | apply Kd.R_alloc | apply Kd.R_drewN | apply Kd.R_drew)); exact HO_8.out) hb)
                          have n1_ := Aside0.mk (Kd.R_below (by (with_reducible repeat (first | apply Kd.R_alloc | apply Kd.R_drewN | apply Kd.R_drew)); exact HO_47.out) hb)
                          have n2_ := Aside0.mk (Kd.C_below (by repeat (first | (with_reducible exact HR183.out) | (with_reducible refine Kd.C_alloc ?_ _) | (with_reducible refine Kd.C_drewN ?_ _) | (with_reducible refine Kd.C_drew ?_) | exact HR183.out)) hb)
                          have n3_ := Aside0.mk (Kd.C_below (by repeat (first | (with_reducible exact HR187.out) | (with_reducible refine Kd.C_alloc ?_ _) | (with_reducible refine Kd.C_drewN ?_ _) | (with_reducible refine Kd.C_drew ?_) | exact HR187.out)) hb)
                          have n4_ := Aside0.mk (below_step (by repeat (first | (with_reducible first | exact HB.out | apply below_alloc | apply pw_below_drewN | apply below_drew1) | exact HB.out)) hb)
                          clear HO_8
                          clear HO_47
                          clear HR183
                          clear HR187
                          clear HB
                          have HO_8 := n0_
                          have HO_47 := n1_
                          have HR183 := n2_
                          have HR187 := n3_
                          have HB := n4_
                          clear n0_ n1_ n2_ n3_ n4_
                          (try clear hb)
                          (try clear hb2)
                          (try clear hk)
                          (try clear hi)
                          refine hK.out _ _ trivial (fun hHeld => ?_)
                          clear hK K
                          refine norm_ (a' := ?_) ?_ ?_
                          rotate_left
                          · show Act.put _ (some 81) _ = _
                            simp only [Act.put, List.setIfInBounds_toArray, List.set_cons_zero, List.set_cons_succ, i64_w, i32_w]
                            rfl
                          refine pure_ (i := 9) (N := some 82) (v := ?_) (a' := ?_) #[true, true, true, true, true, true, true, true, true, true, false] rfl rfl (any_of HT_.out (by kernel_rfl)) (fun _ _ _ h => h) (Or.inl ⟨by rfl, ?_⟩) ?_ ?_
                          rotate_left
                          · intro w'
                            go_simp
                            with_reducible rfl
                          rotate_left
                          · simp only [Act.put, List.setIfInBounds_toArray, List.set_cons_zero, List.set_cons_succ, i64_w, i32_w]
                            rfl
                          refine pure_ (i := 10) (N := some 2) (v := ?_) (a' := ?_) #[true, true, true, true, true, true, true, true, true, true, true] rfl rfl (any_of HT_.out (by kernel_rfl)) (fun _ _ _ h => h) (Or.inl ⟨by rfl, ?_⟩) ?_ ?_
                          rotate_left
                          · intro w'
                            go_simp
                            with_reducible rfl
                          rotate_left
                          · simp only [Act.put, List.setIfInBounds_toArray, List.set_cons_zero, List.set_cons_succ, i64_w, i32_w]
                            rfl
                          refine done_ (done_of HT_.out (by kernel_rfl)) ?_
                          try go_wp2
                          go_ret
                          exact ⟨by first | rfl | (simp [errW_none, errW_some] <;> rfl) | (simp [*, errW_none, errW_some] <;> rfl), by repeat (first | (with_reducible first | exact HB.out | apply below_alloc | apply pw_below_drewN | apply below_drew1) | exact HB.out)⟩
                        · replace c41 := Bool.eq_false_iff.mpr c41
                          subst c41
                          have H1 : (some false) = some r := by rw [if_neg (show ¬ (false = true) by decide)] at H; exact H
                          clear H
                          have H := H1
                          clear H1
                          obtain rfl := Option.some.inj H
                          try go_wp2
                          have n0_ := Aside0.mk (Kd.R_drew HO_8.out)
                          have n1_ := Aside0.mk (Kd.R_drew HO_47.out)
                          have n2_ := Aside0.mk (below_drew1 HB.out)
                          clear HO_8
                          clear HO_47
                          clear HB
                          have HO_8 := n0_
                          have HO_47 := n1_
                          have HB := n2_
                          clear n0_ n1_ n2_
                          obtain ⟨Ao50, co50, eo50⟩ := Kd.R_slice HO_8.out
                          (first | subst eo50 | (injection eo50 with f1_ f2_ f3_; have f4_ := f1_.symm; have f5_ := f3_.symm; clear f1_ f2_ f3_; subst f4_; subst f5_))
                          have q49 : (x5_1 : Int) ≤ ((t176.length : Int) : Int) := of_decide_eq_true (by first | (with_reducible assumption) | assumption)
                          obtain ⟨i049, hi049, _, hsz49, _⟩ := info_parts info9
                          have hroom49 : t176.length ≤ co50 := (Kd.R_reads' HO_8.out).2.1
                          have hC49 : Kd.C Kd.string _ Ao50 t176.length t176 := (Kd.R_reads' HO_8.out).2.2
                          have hcut49 := cut_to (P := Tryz.prog) 30 9 .i64 Tryz.underlying30 hi049 Ao50 t176.length co50 x5_1 (of_decide_eq_true (by first | (with_reducible assumption) | assumption)) q49 hroom49
                          have hr49 := Kd.C_take (m := (x5_1 : Int).toNat) hC49 (by omega)
                          have hy49 : y180.length = (x5_1 : Int).toNat := (by rw [Ny180.out, List.length_take]; omega)
                          rw [← Ny180.out] at hr49
                          rw [← hy49] at hcut49
                          have HR183 := Aside0.mk hr49
                          have HC183 := Aside0.mk (show y180.length ≤ co50 from by omega)
                          clear hr49 hC49 hroom49 hi049 hsz49
                          have KY49 := Aside0.mk hy49
                          clear hy49
                          have KL49 := Aside0.mk (show (x5_1 : Int).toNat ≤ t176.length from by omega)
                          replace q49 := eq_true q49
                          have q51 : (x5_1 : Int) ≤ ((t176.length : Int) : Int) := of_decide_eq_true (by first | (with_reducible assumption) | assumption)
                          obtain ⟨i051, hi051, _, hsz51, _⟩ := info_parts info9
                          have hroom51 : t176.length ≤ co50 := (Kd.R_reads' HO_8.out).2.1
                          have hC51 : Kd.C Kd.string _ Ao50 t176.length t176 := (Kd.R_reads' HO_8.out).2.2
                          have q051 : (0 : Int) ≤ (x5_1 : Int) := of_decide_eq_true (by first | (with_reducible assumption) | assumption)
                          have hcut51 := cut_from (P := Tryz.prog) 30 9 .i64 Tryz.underlying30 hi051 1 hsz51 Ao50 t176.length co50 x5_1 q051 q51
                          have hr51 := Kd.C_drop (m := (x5_1 : Int).toNat) (c := co50) hC51 (by omega) hroom51
                          obtain ⟨A51, hA51⟩ : ∃ A1, A1 = (if co50 = (x5_1 : Int).toNat then Ao50 else (Ao50 : Option Addr).map (·.add ((x5_1 : Int).toNat * 1))) := ⟨_, rfl⟩
                          obtain ⟨c51, hc51⟩ : ∃ c1, c1 = co50 - (x5_1 : Int).toNat := ⟨_, rfl⟩
                          have hy51 : y184.length = t176.length - (x5_1 : Int).toNat := (by rw [Ny184.out, List.length_drop] <;> omega)
                          rw [show (t176).drop (x5_1 : Int).toNat = y184 from Ny184.out.symm] at hr51
                          replace hr51 : Kd.C Kd.string _ A51 y184.length y184 := (by rw [hA51]; exact hr51)
                          rw [← hy51, ← hA51, ← hc51] at hcut51
                          have HR187 := Aside0.mk hr51
                          have HC187 := Aside0.mk (show y184.length ≤ c51 from by rw [hy51, hc51]; exact Nat.sub_le_sub_right hroom51 _)
                          clear hr51 hC51 hroom51 hi051 hsz51 hc51
                          have KY51 := Aside0.mk hy51
                          have KA51 := Aside0.mk hA51
                          clear hy51 hA51
                          have KL51 := Aside0.mk (show (x5_1 : Int).toNat ≤ t176.length from by omega)
                          replace q51 := eq_true q51
                          refine start_ (n := 11) (S := fun w' => True) (ds := []) #[false, false, false, false, false, false, false, false, false, false, false] (by kernel_rfl) rfl rfl trivial (fun hHeld => ?_); refine with_tabW gatekeep2_RoundsAreFair.tab25 gatekeep2_RoundsAreFair.bits25 (fun HT_ HW_ => ?_)
                          generalize wr.drew = w48 at HO_8 HO_47 HB HR183 HR187 hHeld ⊢
                          refine pure_ (i := 0) (N := some 73) (v := ?_) (a' := ?_) #[true, false, false, false, false, false, false, false, false, false, false] rfl rfl (any_of HT_.out (by kernel_rfl)) (fun _ _ _ h => h) (Or.inl ⟨by rfl, ?_⟩) ?_ ?_
                          rotate_left
                          · intro w'
                            go_simp
                            with_reducible rfl
                          rotate_left
                          · simp only [Act.put, List.setIfInBounds_toArray, List.set_cons_zero, List.set_cons_succ, i64_w, i32_w]
                            rfl
                          refine pure_ (i := 1) (N := some 74) (v := ?_) (a' := ?_) #[true, true, false, false, false, false, false, false, false, false, false] rfl rfl (any_of HT_.out (by kernel_rfl)) (fun _ _ _ h => h) (Or.inl ⟨by rfl, ?_⟩) ?_ ?_
                          rotate_left
                          · intro w'
                            go_simp
                            with_reducible rfl
                          rotate_left
                          · simp only [Act.put, List.setIfInBounds_toArray, List.set_cons_zero, List.set_cons_succ, i64_w, i32_w]
                            rfl
                          refine pure_ (i := 2) (N := some 75) (v := ?_) (a' := ?_) #[true, true, true, false, false, false, false, false, false, false, false] rfl rfl (any_of HT_.out (by kernel_rfl)) (fun _ _ _ h => h) (Or.inl ⟨by rfl, ?_⟩) ?_ ?_
                          rotate_left
                          · intro w'
                            go_simp
                            with_reducible rfl
                          rotate_left
                          · simp only [Act.put, List.setIfInBounds_toArray, List.set_cons_zero, List.set_cons_succ, i64_w, i32_w]
                            rfl
                          refine pure_ (i := 3) (N := some 76) (v := ?_) (a' := ?_) #[true, true, true, true, false, false, false, false, false, false, false] rfl rfl (any_of HT_.out (by kernel_rfl)) (fun _ _ _ h => h) (Or.inl ⟨by rfl, ?_⟩) ?_ ?_
                          rotate_left
                          · intro w'
                            go_simp
                            with_reducible rfl
                          rotate_left
                          · simp only [Act.put, List.setIfInBounds_toArray, List.set_cons_zero, List.set_cons_succ, i64_w, i32_w]
                            rfl
                          refine pure_ (i := 4) (N := some 77) (v := ?_) (a' := ?_) #[true, true, true, true, true, false, false, false, false, false, false] rfl rfl (any_of HT_.out (by kernel_rfl)) (fun _ _ _ h => h) (Or.inl ⟨by rfl, ?_⟩) ?_ ?_
                          rotate_left
                          · intro w'
                            go_simp
                            with_reducible rfl
                          rotate_left
                          · simp only [Act.put, List.setIfInBounds_toArray, List.set_cons_zero, List.set_cons_succ, i64_w, i32_w]
                            rfl
                          refine pure_ (i := 5) (N := some 78) (v := ?_) (a' := ?_) #[true, true, true, true, true, true, false, false, false, false, false] rfl rfl (any_of HT_.out (by kernel_rfl)) (fun _ _ _ h => h) (Or.inl ⟨by rfl, ?_⟩) ?_ ?_
                          rotate_left
                          · intro w'
                            go_simp
                            with_reducible rfl
                          rotate_left
                          · simp only [Act.put, List.setIfInBounds_toArray, List.set_cons_zero, List.set_cons_succ, i64_w, i32_w]
                            rfl
                          refine one_ (i := 6) (N := some 79) #[true, true, true, true, true, true, true, false, false, false, false] rfl rfl (one_of HT_.out (by kernel_rfl)) (by decide) (fun K hK => ?_)
                          refine goes_ Tryz.func8 (by kernel_rfl) rfl #[.slice Ao50 y180.length co50, .slice A51 y184.length c51] (by rfl) rfl rfl (by (try simp only [List.map_toArray, List.map_cons, List.map_nil]); first | done | rfl | (simp only [List.length_drop, List.length_take]; rfl)) ?_
                          with_reducible refine (slices_Equal_string_string.calls k3 _ _ y180 _ _ y184 false _ ?side1 ?side2 ?side3 ?side4 A40.out).mono ?_
                          (case side1 => repeat (first | exact (by repeat (first | (with_reducible exact HR183.out) | (with_reducible refine Kd.C_alloc ?_ _) | (with_reducible refine Kd.C_drewN ?_ _) | (with_reducible refine Kd.C_drew ?_) | exact HR183.out)) | (with_reducible refine Kd.C_alloc ?_ _) | (with_reducible refine Kd.C_drewN ?_ _) | (with_reducible refine Kd.C_drew ?_)))
                          (case side2 => exact HC183.out)
                          (case side3 => repeat (first | exact (by repeat (first | (with_reducible exact HR187.out) | (with_reducible refine Kd.C_alloc ?_ _) | (with_reducible refine Kd.C_drewN ?_ _) | (with_reducible refine Kd.C_drew ?_) | exact HR187.out)) | (with_reducible refine Kd.C_alloc ?_ _) | (with_reducible refine Kd.C_drewN ?_ _) | (with_reducible refine Kd.C_drew ?_)))
                          (case side4 => exact HC187.out)
                          rintro e w' ⟨rfl, ⟨nd, rfl⟩⟩
                          refine ⟨_, rfl, ?_⟩
                          refine hK.out _ _ trivial (fun hHeld => ?_)
                          clear hK K
                          refine norm_ (a' := ?_) ?_ ?_
                          rotate_left
                          · show Act.put _ (some 79) _ = _
                            simp only [Act.put, List.setIfInBounds_toArray, List.set_cons_zero, List.set_cons_succ, i64_w, i32_w]
                            rfl
                          refine pure_ (i := 7) (N := some 80) (v := ?_) (a' := ?_) #[true, true, true, true, true, true, true, true, false, false, false] rfl rfl (any_of HT_.out (by kernel_rfl)) (fun _ _ _ h => h) (Or.inl ⟨by rfl, ?_⟩) ?_ ?_
                          rotate_left
                          · intro w'
                            go_simp
                            with_reducible rfl
                          rotate_left
                          · simp only [Act.put, List.setIfInBounds_toArray, List.set_cons_zero, List.set_cons_succ, i64_w, i32_w]
                            rfl
                          refine pure_ (i := 8) (N := some 81) (v := undef) (a' := ?_) #[true, true, true, true, true, true, true, true, true, false, false] rfl rfl (any_of HT_.out (by kernel_rfl)) (fun _ _ _ h => h) (Or.inr ⟨by rfl, rfl⟩) ?_ ?_
                          rotate_left
                          · simp only [Act.put, List.setIfInBounds_toArray, List.set_cons_zero, List.set_cons_succ, i64_w, i32_w]
                            rfl
                          refine pure_ (i := 9) (N := some 82) (v := ?_) (a' := ?_) #[true, true, true, true, true, true, true, true, true, true, false] rfl rfl (any_of HT_.out (by kernel_rfl)) (fun _ _ _ h => h) (Or.inl ⟨by rfl, ?_⟩) ?_ ?_
                          rotate_left
                          · intro w'
                            go_simp
                            with_reducible rfl
                          rotate_left
                          · simp only [Act.put, List.setIfInBounds_toArray, List.set_cons_zero, List.set_cons_succ, i64_w, i32_w]
                            rfl
                          refine pure_ (i := 10) (N := some 2) (v := ?_) (a' := ?_) #[true, true, true, true, true, true, true, true, true, true, true] rfl rfl (any_of HT_.out (by kernel_rfl)) (fun _ _ _ h => h) (Or.inl ⟨by rfl, ?_⟩) ?_ ?_
                          rotate_left
                          · intro w'
                            go_simp
                            with_reducible rfl
                          rotate_left
                          · simp only [Act.put, List.setIfInBounds_toArray, List.set_cons_zero, List.set_cons_succ, i64_w, i32_w]
                            rfl
                          refine done_ (done_of HT_.out (by kernel_rfl)) ?_
                          try go_wp2
                          go_ret
                          exact ⟨by first | rfl | (simp [errW_none, errW_some] <;> rfl) | (simp [*, errW_none, errW_some] <;> rfl), by repeat (first | (with_reducible first | exact HB.out | apply below_alloc | apply pw_below_drewN | apply below_drew1) | exact HB.out)⟩
                      · rw [if_neg c37] at H
                        exact absurd H (by simp)
                    · rw [if_neg c36] at H
                      exact absurd H (by simp)

/-- THE ONE PURE STATEMENT of gatekeep2_RoundsAreFair: yours. -/
def gatekeep2_RoundsAreFair.Pure : Prop := ∀ (l0 : List Int), l0.length ≤ maxLen → l0.length * 8 ≤ 140737488351232 → (∀ x ∈ l0, (Lit.int .i64 x).wf = true) → ∃ k, gatekeep2_RoundsAreFair.f k l0 = some true
theorem gatekeep2_RoundsAreFair.walk (P : gatekeep2_RoundsAreFair.Pure) (a0 : Option Addr) (len0 cap0 : Nat) (z0 : List Int) (w : World) (w0 : (a0 = none ∧ len0 = 0 ∧ cap0 = 0 ∧ z0 = []) ∨ ∃ x, a0 = some x ∧ len0 ≤ cap0 ∧ cap0 ≤ maxLen ∧ z0.length = cap0 ∧ (∀ i, i < z0.length → w.cell? (x.add i) = some (.int .i64 (z0.getD i 0))) ∧ ∀ n ∈ z0, (Lit.int .i64 n).wf = true) (y0 : len0 * 8 ≤ 140737488351232) :
    Calls Tryz.prog 3 #[.slice a0 len0 cap0] w fun e w' => e = .returned (.bool true) ∧ Below w.heap.size w w' := by
  obtain ⟨l0, rfl, hr0, hm0, hw0, hc0⟩ := ReadsInt.ofRowC w0
  obtain ⟨k, h⟩ := P l0 hm0 y0 hw0
  refine (gatekeep2_RoundsAreFair.calls k _ _ l0 true w (Kd.C_of_reads (d := (0 : Int)) (h1 := fun _ => rfl) hr0) hc0 h).mono ?_
  rintro e w' ⟨rfl, hd⟩
  exact ⟨rfl, hd⟩

end Go.Proofs.YthgjnpmebjlecaaGreatDoor.P
/- The stream hands out, at every place of it, a number of the range that was asked for; condition: fewer than 2^40 numbers have been handed out, and the list fits into memory. -/
namespace Go.Proofs.YthgjnpmebjlecaaGreatDoor.Stream
open Go.RowKit Go.Proofs.YthgjnpmebjlecaaGreatDoorW.PrintWords Go.Proofs.YthgjnpmebjlecaaGreatDoorW.PrintLast Go.Proofs.YthgjnpmebjlecaaGreatDoorW.PrintMore Go.Proofs.YthgjnpmebjlecaaGreatDoor.P

theorem wrap_in {x : Int} (h0 : -9223372036854775808 ≤ x) (h1 : x ≤ 9223372036854775807) : wrap64 x = x := by unfold wrap64; omega

theorem below_ok (x n : Int) (h1 : 1 ≤ n) (h2 : n ≤ 4611686018427387904) : ∃ v, 0 ≤ v ∧ v < n ∧ gatemake_Below.f x n = some v := by
  unfold gatemake_Below.f
  rw [if_neg (by omega), if_neg (by omega)]
  have ha : Int.tmod x n < n := Int.tmod_lt_of_pos x (by omega)
  have hb : -n < Int.tmod x n := by
    have := Int.tmod_lt_of_pos (-x) (show 0 < n by omega)
    rw [Int.neg_tmod] at this; omega
  by_cases h : Int.tmod x n < 0
  · rw [if_pos h, wrap_in (by omega) (by omega)]; exact ⟨_, by omega, by omega, rfl⟩
  · rw [if_neg h]; exact ⟨_, by omega, ha, rfl⟩

theorem next_ok (l : List Int) (at_ n : Int) (hl : l.length ≤ 140737488351232) (h0 : 0 ≤ at_) (h1 : at_ < 1099511627776) (hn : 1 ≤ n) (hn2 : n ≤ 4611686018427387904) :
    ∃ v, 0 ≤ v ∧ v < n ∧ gatemake_Stream_Next.f l at_ n = some (v, at_ + 1) := by
  unfold gatemake_Stream_Next.f
  have e1 : wrap64 (at_ + 1) = at_ + 1 := wrap_in (by omega) (by omega)
  rw [e1]
  by_cases hz : (l.length : Int) = 0
  · rw [if_pos hz]
    obtain ⟨v, a, b, e⟩ := below_ok (wrap64 ((at_ + 1) * 7919)) n hn hn2
    rw [e]; exact ⟨v, a, b, rfl⟩
  · rw [if_neg hz]
    have e2 : wrap64 (at_ + 1 - 1) = at_ := by rw [wrap_in (by omega) (by omega)]; omega
    rw [e2]
    have hp : 0 ≤ Int.tmod at_ l.length := Int.tmod_nonneg _ h0
    have hq : Int.tmod at_ l.length < l.length := Int.tmod_lt_of_pos _ (by omega)
    rw [if_pos hp, if_pos hq]
    obtain ⟨v, a, b, e⟩ := below_ok (rd l (Int.tmod at_ l.length)) 1073741824 (by omega) (by omega)
    rw [e]; simp only [Option.bind_some]
    obtain ⟨v', a', b', e'⟩ := below_ok (wrap64 (v + wrap64 (wrap64 (Int.tdiv at_ l.length) * wrap64 (7919 + Int.tmod at_ l.length)))) n hn hn2
    rw [e']; exact ⟨v', a', b', rfl⟩

theorem flip_ok (l : List Int) (at_ n : Int) (hl : l.length ≤ 140737488351232) (h0 : 0 ≤ at_) (h1 : at_ < 1099511627776) (hn : 1 ≤ n) (hn2 : n ≤ 4611686018427387904) :
    ∃ b, gatemake_Stream_Flip.f l at_ n = some (b, at_ + 1) := by
  obtain ⟨v, _, _, e⟩ := next_ok l at_ n hl h0 h1 hn hn2
  unfold gatemake_Stream_Flip.f; rw [e]; exact ⟨_, rfl⟩

theorem pick_ok (l : List Int) (at_ : Int) (c : List Int) (hl : l.length ≤ 140737488351232) (h0 : 0 ≤ at_) (h1 : at_ < 1099511627776) (hc : 1 ≤ c.length) (hc2 : c.length ≤ 1000000) :
    ∃ x, x ∈ c ∧ gatemake_Stream_Pick.f l at_ c = some (x, at_ + 1) := by
  obtain ⟨v, a, b, e⟩ := next_ok l at_ c.length hl h0 h1 (by omega) (by omega)
  unfold gatemake_Stream_Pick.f; rw [e]; simp only [Option.bind_some]
  rw [if_pos a, if_pos b]
  refine ⟨rd c v, ?_, rfl⟩
  unfold rd
  have h : v.toNat < c.length := by omega
  rw [List.getD_eq_getElem?_getD, List.getElem?_eq_getElem h]
  exact List.getElem_mem h
end Go.Proofs.YthgjnpmebjlecaaGreatDoor.Stream
/- The pure statement of 'gatekeep2.RoundsAreFair': the instances that the stream makes are of 624 lists, and at each of these the law's function returns true; condition: the list of numbers fits into memory. -/
namespace Go.Proofs.YthgjnpmebjlecaaGreatDoor.Pure
open Go.RowKit Go.Proofs.YthgjnpmebjlecaaGreatDoorW.PrintWords Go.Proofs.YthgjnpmebjlecaaGreatDoorW.PrintLast Go.Proofs.YthgjnpmebjlecaaGreatDoorW.PrintMore Go.Proofs.YthgjnpmebjlecaaGreatDoor.P Go.Proofs.YthgjnpmebjlecaaGreatDoor.Stream

def keys : List ByteArray := [⟨#[105, 97]⟩, ⟨#[105, 98]⟩, ⟨#[105, 99]⟩, ⟨#[105, 100]⟩]
def keyAt (i : Nat) : ByteArray := keys.getD i ByteArray.empty
def grow (i : Nat) (ls : List (List S29)) : List (List S29) :=
  ls.flatMap fun acc => (if acc.isEmpty && i == 3 then [] else [acc]) ++ [1, 2, 3, 5].map fun w => acc ++ [(⟨keyAt i, w⟩ : S29)]

theorem pick5 (l : List Int) (at_ : Int) (hl : l.length ≤ 140737488351232) (h0 : 0 ≤ at_) (h1 : at_ < 1099511627776) :
    ∃ x, x ∈ ([1, 2, 3, 5] : List Int) ∧ gatemake_Stream_Pick.f l at_ [1, 1, 2, 3, 5] = some (x, at_ + 1) := by
  obtain ⟨x, hx, e⟩ := pick_ok l at_ [1, 1, 2, 3, 5] hl h0 h1 (by simp) (by simp)
  exact ⟨x, by simpa using hx, e⟩

theorem step (l : List Int) (hl : l.length ≤ 140737488351232) (k : Nat) (acc : List S29) (hacc : acc.length ≤ 4) (i : Nat) (hi : i < 4) (at_ : Int) (h0 : 0 ≤ at_) (h1 : at_ < 1000) (ls : List (List S29)) (hm : acc ∈ ls) :
    ∃ acc' at', gatemake_Stream_RightInstances.l0 (k + 1) acc keys 4 i l at_ = gatemake_Stream_RightInstances.l0 k acc' keys 4 ((i + 1 : Nat) : Int) l at' ∧ acc' ∈ grow i ls ∧ acc'.length ≤ acc.length + 1 ∧ 0 ≤ at' ∧ at' ≤ at_ + 2 := by
  have hk : rdOf ByteArray.empty keys (i : Int) = keyAt i := rfl
  have e1 : wrap64 ((i : Int) + 1) = ((i + 1 : Nat) : Int) := by rw [wrap_in (by omega) (by omega)]; rfl
  have grows : ∀ x ∈ ([1, 2, 3, 5] : List Int), acc ++ [(⟨keyAt i, x⟩ : S29)] ∈ grow i ls := fun x hx => by
    unfold grow; rw [List.mem_flatMap]; exact ⟨acc, hm, List.mem_append_right _ (List.mem_map.2 ⟨x, hx, rfl⟩)⟩
  have stays : ¬ (acc.isEmpty && i == 3) = true → acc ∈ grow i ls := fun h => by
    unfold grow; rw [List.mem_flatMap]; exact ⟨acc, hm, List.mem_append_left _ (by rw [if_neg h]; simp)⟩
  simp only [gatemake_Stream_RightInstances.l0]
  rw [if_pos (by omega), if_pos (by omega), if_pos (by simp [keys]; omega), hk, e1]
  have add : ∀ t, 0 ≤ t → t ≤ at_ + 1 → ∃ acc' at', ((gatemake_Stream_Pick.f l t [1, 1, 2, 3, 5]).bind fun bt => if acc.length < 5864062014805 then gatemake_Stream_RightInstances.l0 k (acc ++ [(⟨keyAt i, bt.1⟩ : S29)]) keys 4 ((i + 1 : Nat) : Int) l bt.2 else none) = gatemake_Stream_RightInstances.l0 k acc' keys 4 ((i + 1 : Nat) : Int) l at' ∧ acc' ∈ grow i ls ∧ acc'.length ≤ acc.length + 1 ∧ 0 ≤ at' ∧ at' ≤ at_ + 2 := fun t ht0 ht1 => by
    obtain ⟨x, hx, e⟩ := pick5 l t hl ht0 (by omega)
    rw [e]; simp only [Option.bind_some]
    rw [if_pos (by omega)]
    exact ⟨_, _, rfl, grows x hx, by simp, by omega, by omega⟩
  have flip : ¬ (acc.isEmpty && i == 3) = true → ∃ acc' at', ((gatemake_Stream_Flip.f l at_ 4).bind fun bt => if bt.1 = true then gatemake_Stream_RightInstances.l0 k acc keys 4 ((i + 1 : Nat) : Int) l bt.2 else (gatemake_Stream_Pick.f l bt.2 [1, 1, 2, 3, 5]).bind fun bt' => if acc.length < 5864062014805 then gatemake_Stream_RightInstances.l0 k (acc ++ [(⟨keyAt i, bt'.1⟩ : S29)]) keys 4 ((i + 1 : Nat) : Int) l bt'.2 else none) = gatemake_Stream_RightInstances.l0 k acc' keys 4 ((i + 1 : Nat) : Int) l at' ∧ acc' ∈ grow i ls ∧ acc'.length ≤ acc.length + 1 ∧ 0 ≤ at' ∧ at' ≤ at_ + 2 := fun hne => by
    obtain ⟨b, e⟩ := flip_ok l at_ 4 hl h0 (by omega) (by omega) (by omega)
    rw [e]; simp only [Option.bind_some]
    cases b with
    | true => rw [if_pos rfl]; exact ⟨acc, at_ + 1, rfl, stays hne, by omega, by omega, by omega⟩
    | false => rw [if_neg (by simp)]; exact add _ (by omega) (by omega)
  by_cases hz : (acc.length : Int) = 0
  · rw [if_pos hz]
    have hn : acc = [] := List.length_eq_zero_iff.1 (by omega)
    by_cases h3 : i = 3
    · subst h3
      rw [if_pos (by decide +kernel)]
      exact add at_ h0 (by omega)
    · have hnk : ¬ (keyAt i).toList = ([105, 100] : List UInt8) := by
        have : i = 0 ∨ i = 1 ∨ i = 2 := by omega
        rcases this with rfl | rfl | rfl <;> decide +kernel
      rw [if_neg hnk]
      exact flip (by simp [h3])
  · rw [if_neg hz]
    exact flip (by cases acc with | nil => exact absurd rfl hz | cons a b => simp)

def all4 : List (List S29) := grow 3 (grow 2 (grow 1 (grow 0 [[]])))

theorem instances (l : List Int) (hl : l.length ≤ 140737488351232) (k : Nat) : ∃ x at', x ∈ all4 ∧ gatemake_Stream_RightInstances.f (k + 5) l 0 = some (x, at') := by
  unfold gatemake_Stream_RightInstances.f
  simp only [Option.bind_some]
  obtain ⟨a1, t1, e1, m1, n1, p1, q1⟩ := step l hl (k + 4) [] (by simp) 0 (by omega) 0 (by omega) (by omega) [[]] (by simp)
  obtain ⟨a2, t2, e2, m2, n2, p2, q2⟩ := step l hl (k + 3) a1 (by simp at n1; omega) 1 (by omega) t1 p1 (by omega) _ m1
  obtain ⟨a3, t3, e3, m3, n3, p3, q3⟩ := step l hl (k + 2) a2 (by simp at n1; omega) 2 (by omega) t2 p2 (by omega) _ m2
  obtain ⟨a4, t4, e4, m4, n4, p4, q4⟩ := step l hl (k + 1) a3 (by simp at n1; omega) 3 (by omega) t3 p3 (by omega) _ m3
  refine ⟨a4, t4, m4, ?_⟩
  refine (e1.trans (e2.trans (e3.trans (e4.trans ?_))))
  simp only [gatemake_Stream_RightInstances.l0]
  rw [if_neg (by simp)]

def holds (x : List S29) : Bool := match gatekeep2_RoundsAreFair.l0 400 x 0 x (x.length : Int) 0 with
  | some true => true
  | _ => false
theorem of_holds {x : List S29} (h : holds x = true) : gatekeep2_RoundsAreFair.l0 400 x 0 x (x.length : Int) 0 = some true := by
  unfold holds at h
  split at h
  · assumption
  · cases h
theorem mem_parts {α : Type} {l : List α} {x : α} (n : Nat) (h : x ∈ l) : x ∈ l.take n ∨ x ∈ l.drop n := by
  rw [← List.take_append_drop n l] at h
  exact List.mem_append.1 h
set_option maxRecDepth 1000000 in
theorem part0 : (all4.take 104).all holds = true := by decide +kernel
set_option maxRecDepth 1000000 in
theorem part1 : ((all4.drop 104).take 104).all holds = true := by decide +kernel
set_option maxRecDepth 1000000 in
theorem part2 : (((all4.drop 104).drop 104).take 104).all holds = true := by decide +kernel
set_option maxRecDepth 1000000 in
theorem part3 : ((((all4.drop 104).drop 104).drop 104).take 104).all holds = true := by decide +kernel
set_option maxRecDepth 1000000 in
theorem part4 : (((((all4.drop 104).drop 104).drop 104).drop 104).take 104).all holds = true := by decide +kernel
set_option maxRecDepth 1000000 in
theorem part5 : (((((all4.drop 104).drop 104).drop 104).drop 104).drop 104).all holds = true := by decide +kernel
theorem all_hold (x : List S29) (h : x ∈ all4) : holds x = true := by
  rcases mem_parts 104 h with h | h
  · exact List.all_eq_true.1 part0 x h
  rcases mem_parts 104 h with h | h
  · exact List.all_eq_true.1 part1 x h
  rcases mem_parts 104 h with h | h
  · exact List.all_eq_true.1 part2 x h
  rcases mem_parts 104 h with h | h
  · exact List.all_eq_true.1 part3 x h
  rcases mem_parts 104 h with h | h
  · exact List.all_eq_true.1 part4 x h
  exact List.all_eq_true.1 part5 x h

theorem RoundsAreFair : gatekeep2_RoundsAreFair.Pure := by
  intro l hm hl hw
  obtain ⟨x, at', hx, e⟩ := instances l (by omega) 395
  refine ⟨400, ?_⟩
  unfold gatekeep2_RoundsAreFair.f
  rw [e]; simp only [Option.bind_some]
  exact of_holds (all_hold x hx)
end Go.Proofs.YthgjnpmebjlecaaGreatDoor.Pure
