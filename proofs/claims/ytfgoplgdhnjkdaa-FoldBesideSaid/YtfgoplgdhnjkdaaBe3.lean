/- The machine's side of Go functions of this seat: for each a Lean function and a proof that the call comes to what it says. Written by a program of this session (wip/xp) for this claim. -/
import Derived.Test.YtfgoplgdhnjkdaaBe0
import Derived.Test.YtfgoplgdhnjkdaaBe2
namespace Go.Proofs.Ytfgoplgdhnjkdaa.Be
open Go.RowKit Go.Proofs.YtfgoplgdhnjkdaaW.PrintWords Go.Proofs.YtfgoplgdhnjkdaaW.PrintLast Go.Proofs.YtfgoplgdhnjkdaaW.PrintMore
attribute [local go_sem] max2_int min2_int max_two min_two max_three min_three max_four min_four   -- for this text's walks alone
open Go.Proofs.YtfgoplgdhnjkdaaW.XWords
attribute [local go_sem high] binOp_fEq binOp_fNe binOp_fLt binOp_fLe binOp_fGt binOp_fGe binOp_cEq binOp_cNe unOp_fNeg unOp_cNeg equalIn_f64 equalIn_c128
attribute [local go_sem] run_real run_imag run_complex run_store_f64 run_store_c128 run_store_fn
set_option linter.unusedVariables false
set_option linter.unusedSimpArgs false

/-! ### fold_grid_sphere: function 38 -/
mutual
def fold_grid_sphere.j0 : Nat → Int → Int → Int → Bool → Bool → Bool → Option (Int × Int × Bool)
  | 0, _, _, _, _, _, _ => none
  | k + 1, x1, x2, x9, x10, x11, x32 => if x32 = true then (some (x1, x2, true)) else (if x10 = true then (if x11 = true then (fold_grid_sphere.j1 k x1 x2 x9 x10 x11 (decide (x1 > x2))) else (fold_grid_sphere.j1 k x1 x2 x9 x10 x11 false)) else (fold_grid_sphere.j1 k x1 x2 x9 x10 x11 false))
def fold_grid_sphere.j1 : Nat → Int → Int → Int → Bool → Bool → Bool → Option (Int × Int × Bool)
  | 0, _, _, _, _, _, _ => none
  | k + 1, x1, x2, x9, x10, x11, x43 => if x43 = true then (some (0, wrap64 (x9 - 1), true)) else (if x10 = true then (fold_grid_sphere.j2 k x1 x2 x9 x10 x11) else (fold_grid_sphere.j2 k x1 x2 x9 x10 false))
def fold_grid_sphere.j2 : Nat → Int → Int → Int → Bool → Bool → Option (Int × Int × Bool)
  | 0, _, _, _, _, _ => none
  | k + 1, x1, x2, x9, x10, x55 => if x55 = true then (some (wrap64 (x9 - 1), 0, true)) else (if x10 = true then (some (mx x2 0, mx x1 0, true)) else (some (mn x2 (wrap64 (x9 - 1)), mn x1 (wrap64 (x9 - 1)), true)))
end
def fold_grid_sphere.f (k : Nat) (a0_0 : Int) (a0_1 : Int) (a0_2 : Int) (a0_3 : Int) (a0_4 : Int) (a0_5 : Int) (a0_6 : Int) (a1 : Int) (a2 : Int) : Option (Int × Int × Bool) := (some ((mn a1 a2) == (-1))).bind fun t130 => ((some ((mx a1 a2) == a0_1)).bind fun t131 => ((fold_on.f a1 a0_1).bind fun t132 => (if t132 = true then ((fold_on.f a2 a0_1).bind fun t133 => (fold_grid_sphere.j0 k a1 a2 a0_1 t130 t131 t133)) else (fold_grid_sphere.j0 k a1 a2 a0_1 t130 t131 false))))
theorem fold_grid_sphere.mono_l : ∀ k, (∀ y0 y1 y2 y3 y4 y5, LeO (fold_grid_sphere.j0 k y0 y1 y2 y3 y4 y5) (fold_grid_sphere.j0 (k + 1) y0 y1 y2 y3 y4 y5)) ∧ (∀ y0 y1 y2 y3 y4 y5, LeO (fold_grid_sphere.j1 k y0 y1 y2 y3 y4 y5) (fold_grid_sphere.j1 (k + 1) y0 y1 y2 y3 y4 y5)) ∧ (∀ y0 y1 y2 y3 y4, LeO (fold_grid_sphere.j2 k y0 y1 y2 y3 y4) (fold_grid_sphere.j2 (k + 1) y0 y1 y2 y3 y4))
  | 0 => ⟨fun _ _ _ _ _ _ r h => by simp [fold_grid_sphere.j0] at h, fun _ _ _ _ _ _ r h => by simp [fold_grid_sphere.j1] at h, fun _ _ _ _ _ r h => by simp [fold_grid_sphere.j2] at h⟩
  | k + 1 => by
    obtain ⟨ih0, ih1, ih2⟩ := fold_grid_sphere.mono_l k
    refine ⟨?_, ?_, ?_⟩
    · intro y0 y1 y2 y3 y4 y5
      unfold fold_grid_sphere.j0
      repeat' first
      | (with_reducible exact ih1 _ _ _ _ _ _)
      | (with_reducible exact LeO.refl _)
      | (with_reducible refine LeO.ite ?_ ?_)
    · intro y0 y1 y2 y3 y4 y5
      unfold fold_grid_sphere.j1
      repeat' first
      | (with_reducible exact ih2 _ _ _ _ _)
      | (with_reducible exact LeO.refl _)
      | (with_reducible refine LeO.ite ?_ ?_)
    · intro y0 y1 y2 y3 y4
      unfold fold_grid_sphere.j2
      repeat' first
      | (with_reducible exact LeO.refl _)
theorem fold_grid_sphere.mono : ∀ a0 a1 a2 a3 a4 a5 a6 a7 a8 k, LeO (fold_grid_sphere.f k a0 a1 a2 a3 a4 a5 a6 a7 a8) (fold_grid_sphere.f (k + 1) a0 a1 a2 a3 a4 a5 a6 a7 a8) := by
  intro a0 a1 a2 a3 a4 a5 a6 a7 a8 k
  obtain ⟨ih0, ih1, ih2⟩ := fold_grid_sphere.mono_l k
  unfold fold_grid_sphere.f
  repeat' first
      | (with_reducible exact ih0 _ _ _ _ _ _)
      | (with_reducible exact LeO.refl _)
      | (with_reducible refine LeO.ite ?_ ?_)
      | (with_reducible refine LeO.bind ?_ (fun _ => ?_))
set_option maxHeartbeats 8000000 in
set_option maxRecDepth 100000 in
theorem fold_grid_sphere.calls (k : Nat) (a0_0 : Int) (a0_1 : Int) (a0_2 : Int) (a0_3 : Int) (a0_4 : Int) (a0_5 : Int) (a0_6 : Int) (a1 : Int) (a2 : Int) (r1 : Int) (r2 : Int) (r3 : Bool) (w : World) (h : fold_grid_sphere.f k a0_0 a0_1 a0_2 a0_3 a0_4 a0_5 a0_6 a1 a2 = some (r1, r2, r3)) :
    Calls Try.prog 38 #[.agg #[.int .u8 a0_0, .int .i64 a0_1, .int .i64 a0_2, .int .u8 a0_3, .int .i64 a0_4, .int .i64 a0_5, .int .i64 a0_6], .int .i64 a1, .int .i64 a2] w fun e w' => e = .returned (.tuple #[.int .i64 r1, .int .i64 r2, .bool r3]) ∧ Below w.heap.size w w' := by
  have hu56 := Try.underlying56
  have HB := Aside0.mk (Below.refl w.heap.size w)
  have H : ((some ((mn a1 a2) == (-1))).bind fun t130 => ((some ((mx a1 a2) == a0_1)).bind fun t131 => ((fold_on.f a1 a0_1).bind fun t132 => (if t132 = true then ((fold_on.f a2 a0_1).bind fun t133 => (fold_grid_sphere.j0 k a1 a2 a0_1 t130 t131 t133)) else (fold_grid_sphere.j0 k a1 a2 a0_1 t130 t131 false))))) = some (r1, r2, r3) := h
  clear h
  obtain ⟨ji4, hji4⟩ : ∃ j_ : Int, (mn a1 a2) = j_ := ⟨_, rfl⟩
  replace H : ((some ((ji4) == (-1))).bind fun t130 => ((some ((mx a1 a2) == a0_1)).bind fun t131 => ((fold_on.f a1 a0_1).bind fun t132 => (if t132 = true then ((fold_on.f a2 a0_1).bind fun t133 => (fold_grid_sphere.j0 k a1 a2 a0_1 t130 t131 t133)) else (fold_grid_sphere.j0 k a1 a2 a0_1 t130 t131 false))))) = some (r1, r2, r3) := by (rw [hji4] at H; exact H)
  have hji4_ : (if a2 < a1 then a2 else a1) = ji4 := hji4
  obtain ⟨ji5, hji5⟩ : ∃ j_ : Int, (mx a1 a2) = j_ := ⟨_, rfl⟩
  replace H : ((some ((ji4) == (-1))).bind fun t130 => ((some ((ji5) == a0_1)).bind fun t131 => ((fold_on.f a1 a0_1).bind fun t132 => (if t132 = true then ((fold_on.f a2 a0_1).bind fun t133 => (fold_grid_sphere.j0 k a1 a2 a0_1 t130 t131 t133)) else (fold_grid_sphere.j0 k a1 a2 a0_1 t130 t131 false))))) = some (r1, r2, r3) := by (rw [hji5] at H; exact H)
  have hji5_ : (if a1 < a2 then a2 else a1) = ji5 := hji5
  replace H := Option.bind_eq_some_iff.mp H
  obtain ⟨t130, A60, H⟩ := H
  replace H : ((some ((ji5) == a0_1)).bind fun t131 => ((fold_on.f a1 a0_1).bind fun t132 => (if t132 = true then ((fold_on.f a2 a0_1).bind fun t133 => (fold_grid_sphere.j0 k a1 a2 a0_1 t130 t131 t133)) else (fold_grid_sphere.j0 k a1 a2 a0_1 t130 t131 false)))) = some (r1, r2, r3) := H
  have A6f := Option.some.inj A60
  have A6 := Aside0.mk A60
  clear A60
  replace H := Option.bind_eq_some_iff.mp H
  obtain ⟨t131, A70, H⟩ := H
  replace H : ((fold_on.f a1 a0_1).bind fun t132 => (if t132 = true then ((fold_on.f a2 a0_1).bind fun t133 => (fold_grid_sphere.j0 k a1 a2 a0_1 t130 t131 t133)) else (fold_grid_sphere.j0 k a1 a2 a0_1 t130 t131 false))) = some (r1, r2, r3) := H
  have A7f := Option.some.inj A70
  have A7 := Aside0.mk A70
  clear A70
  have HC8 := Aside0.mk H
  clear H
  go_enter Try.func38, Try.ntmps38
  go_upto_region 4 with ((((with_reducible refine gate_dst (N := 3) rfl ?_); refine box_event ?hg (N := 3) ?hd (cs := #[.int .u8 a0_0, .int .i64 a0_1, .int .i64 a0_2, .int .u8 a0_3, .int .i64 a0_4, .int .i64 a0_5, .int .i64 a0_6]) (t := 56) ?hr ?_; (case hd => rfl); (case hg => rfl); (case hr => (go_simp; done)); intro gb129 hg w9 hbox hb; have BK129 := Aside0.mk hbox; have GW129 := Aside0.mk ((by rw [hg]; exact (below_size HB.out) : w.heap.size ≤ gb129)); have GE129 := Aside0.mk ((by rw [hg]; exact (below_size HB.out) : w.heap.size ≤ gb129)); replace HB := Aside0.mk (below_step HB.out hb); clear hb hbox hg; have hcz10_0 : w9.cell? ⟨gb129, 0, none⟩ = some (.int .u8 a0_0) := (blk_cell BK129.out 0).trans rfl; have hcz10_1 : w9.cell? ⟨gb129, 1, none⟩ = some (.int .i64 a0_1) := (blk_cell BK129.out 1).trans rfl; have hcz10_2 : w9.cell? ⟨gb129, 2, none⟩ = some (.int .i64 a0_2) := (blk_cell BK129.out 2).trans rfl; have hcz10_3 : w9.cell? ⟨gb129, 3, none⟩ = some (.int .u8 a0_3) := (blk_cell BK129.out 3).trans rfl; have hcz10_4 : w9.cell? ⟨gb129, 4, none⟩ = some (.int .i64 a0_4) := (blk_cell BK129.out 4).trans rfl; have hcz10_5 : w9.cell? ⟨gb129, 5, none⟩ = some (.int .i64 a0_5) := (blk_cell BK129.out 5).trans rfl; have hcz10_6 : w9.cell? ⟨gb129, 6, none⟩ = some (.int .i64 a0_6) := (blk_cell BK129.out 6).trans rfl; have hfz10_0 := blk_frozen BK129.out 0; have hfz10_1 := blk_frozen BK129.out 1; have hfz10_2 := blk_frozen BK129.out 2; have hfz10_3 := blk_frozen BK129.out 3; have hfz10_4 := blk_frozen BK129.out 4; have hfz10_5 := blk_frozen BK129.out 5; have hfz10_6 := blk_frozen BK129.out 6)))
  go_cut [32] (fun v32 wc => ∃ (kq : Nat) (x32_7 : Bool), v32 = .bool x32_7 ∧ Aside0 (fold_grid_sphere.j0 kq a1 a2 a0_1 t130 t131 x32_7 = some (r1, r2, r3)) ∧ Aside0 (kq ≤ k) ∧ Aside0 (wc.heap[gb129]? = some (.cells #[.int .u8 a0_0, .int .i64 a0_1, .int .i64 a0_2, .int .u8 a0_3, .int .i64 a0_4, .int .i64 a0_5, .int .i64 a0_6] 56 (0, 0))) ∧ Aside0 (Below w.heap.size w wc))
  case first =>
    have H := HC8.out
    clear HC8
    replace H := Option.bind_eq_some_iff.mp H
    obtain ⟨t132, A110, H⟩ := H
    replace H : (if t132 = true then ((fold_on.f a2 a0_1).bind fun t133 => (fold_grid_sphere.j0 k a1 a2 a0_1 t130 t131 t133)) else (fold_grid_sphere.j0 k a1 a2 a0_1 t130 t131 false)) = some (r1, r2, r3) := H
    have A11 := Aside0.mk A110
    clear A110
    by_cases c12 : t132 = true
    · subst c12
      have H1 : ((fold_on.f a2 a0_1).bind fun t133 => (fold_grid_sphere.j0 k a1 a2 a0_1 t130 t131 t133)) = some (r1, r2, r3) := by rw [if_pos rfl] at H; exact H
      clear H
      have H := H1
      clear H1
      replace H := Option.bind_eq_some_iff.mp H
      obtain ⟨t133, A130, H⟩ := H
      replace H : (fold_grid_sphere.j0 k a1 a2 a0_1 t130 t131 t133) = some (r1, r2, r3) := H
      have A13 := Aside0.mk A130
      clear A130
      have H' := Aside0.mk H
      clear H
      go_wp2_with (first | ((with_reducible refine gate_callee (f := 39) rfl ?_); refine goesL_ (some 35) rfl rfl Try.func39 (by kernel_rfl) rfl #[.int .i64 a1, .int .i64 a0_1] rfl (by (try simp only [List.map_toArray, List.map_cons, List.map_nil]); (rfl)) ?_; (with_reducible refine (fold_on.calls a1 a0_1 true _ A11.out).mono ?_); rintro e w' ⟨rfl, ⟨nd, rfl⟩⟩; refine ⟨_, rfl, ?_⟩) | (go_at_call 39; (with_reducible refine (fold_on.calls a2 a0_1 t133 _ A13.out).mono ?_); rintro e w' ⟨rfl, ⟨nd, rfl⟩⟩))
      go_meet
      case rel => exact ⟨_, (t133), (by (rfl)), H', ⟨by (omega)⟩, ⟨by (with_reducible repeat (refine blk_drewN ?_ _)); exact BK129.out⟩, ⟨by repeat (with_reducible first | exact HB.out | apply pw_below_drewN)⟩⟩
    · replace c12 := Bool.eq_false_iff.mpr c12
      subst c12
      have H1 : (fold_grid_sphere.j0 k a1 a2 a0_1 t130 t131 false) = some (r1, r2, r3) := by rw [if_neg (show ¬ (false = true) by decide)] at H; exact H
      clear H
      have H := H1
      clear H1
      have H' := Aside0.mk H
      clear H
      go_wp2_with ((((with_reducible refine gate_callee (f := 39) rfl ?_); refine goesL_ (some 35) rfl rfl Try.func39 (by kernel_rfl) rfl #[.int .i64 a1, .int .i64 a0_1] rfl (by (try simp only [List.map_toArray, List.map_cons, List.map_nil]); (rfl)) ?_; (with_reducible refine (fold_on.calls a1 a0_1 false _ A11.out).mono ?_); rintro e w' ⟨rfl, ⟨nd, rfl⟩⟩; refine ⟨_, rfl, ?_⟩)))
      go_meet
      case rel => exact ⟨_, (false), (by (rfl)), H', ⟨by (omega)⟩, ⟨by (with_reducible repeat (refine blk_drewN ?_ _)); exact BK129.out⟩, ⟨by repeat (with_reducible first | exact HB.out | apply pw_below_drewN)⟩⟩
  case rest =>
    clear HC8
    try clear hcz10_0
    try clear hcz10_1
    try clear hcz10_2
    try clear hcz10_3
    try clear hcz10_4
    try clear hcz10_5
    try clear hcz10_6
    try clear hfz10_0
    try clear hfz10_1
    try clear hfz10_2
    try clear hfz10_3
    try clear hfz10_4
    try clear hfz10_5
    try clear hfz10_6
    obtain ⟨kq, x32_7, rfl, HA, HJ7, BK129, HB⟩ := hcut
    cases kq with
    | zero => exact absurd HA.out (by simp [fold_grid_sphere.j0])
    | succ kj7 =>
      have H := HA.out
      clear HA
      simp only [fold_grid_sphere.j0] at H
      by_cases c14 : x32_7 = true
      · subst c14
        have H1 : (some (a1, a2, true)) = some (r1, r2, r3) := by rw [if_pos rfl] at H; exact H
        clear H
        have H := H1
        clear H1
        simp only [Option.some.injEq, Prod.mk.injEq] at H
        obtain ⟨rfl, rfl, rfl⟩ := H
        go_wp2
        go_ret3
        exact ⟨by (rfl), by repeat (with_reducible (exact HB.out))⟩
      · replace c14 := Bool.eq_false_iff.mpr c14
        subst c14
        have H1 : (if t130 = true then (if t131 = true then (fold_grid_sphere.j1 kj7 a1 a2 a0_1 t130 t131 (decide (a1 > a2))) else (fold_grid_sphere.j1 kj7 a1 a2 a0_1 t130 t131 false)) else (fold_grid_sphere.j1 kj7 a1 a2 a0_1 t130 t131 false)) = some (r1, r2, r3) := by rw [if_neg (show ¬ (false = true) by decide)] at H; exact H
        clear H
        have H := H1
        clear H1
        have HC15 := Aside0.mk H
        clear H
        go_upto_region 6 with (fail)
        go_cut [43] (fun v43 wc => ∃ (kq : Nat) (x43_14 : Bool), v43 = .bool x43_14 ∧ Aside0 (fold_grid_sphere.j1 kq a1 a2 a0_1 t130 t131 x43_14 = some (r1, r2, r3)) ∧ Aside0 (kq ≤ kj7) ∧ Aside0 (wc.heap[gb129]? = some (.cells #[.int .u8 a0_0, .int .i64 a0_1, .int .i64 a0_2, .int .u8 a0_3, .int .i64 a0_4, .int .i64 a0_5, .int .i64 a0_6] 56 (0, 0))) ∧ Aside0 (Below w.heap.size w wc))
        case first =>
          have H := HC15.out
          clear HC15
          by_cases c16 : t130 = true
          · subst c16
            have H1 : (if t131 = true then (fold_grid_sphere.j1 kj7 a1 a2 a0_1 true t131 (decide (a1 > a2))) else (fold_grid_sphere.j1 kj7 a1 a2 a0_1 true t131 false)) = some (r1, r2, r3) := by rw [if_pos rfl] at H; exact H
            clear H
            have H := H1
            clear H1
            by_cases c17 : t131 = true
            · subst c17
              have H1 : (fold_grid_sphere.j1 kj7 a1 a2 a0_1 true true (decide (a1 > a2))) = some (r1, r2, r3) := by rw [if_pos rfl] at H; exact H
              clear H
              have H := H1
              clear H1
              have H' := Aside0.mk H
              clear H
              go_wp2
              go_meet
              case rel => exact ⟨_, (decide (a1 > a2)), (by (rfl)), H', ⟨by have := HJ7.out; (omega)⟩, ⟨by (with_reducible skip); exact BK129.out⟩, ⟨by repeat (with_reducible (exact HB.out))⟩⟩
            · replace c17 := Bool.eq_false_iff.mpr c17
              subst c17
              have H1 : (fold_grid_sphere.j1 kj7 a1 a2 a0_1 true false false) = some (r1, r2, r3) := by rw [if_neg (show ¬ (false = true) by decide)] at H; exact H
              clear H
              have H := H1
              clear H1
              have H' := Aside0.mk H
              clear H
              go_wp2
              go_meet
              case rel => exact ⟨_, (false), (by (rfl)), H', ⟨by have := HJ7.out; (omega)⟩, ⟨by (with_reducible skip); exact BK129.out⟩, ⟨by repeat (with_reducible (exact HB.out))⟩⟩
          · replace c16 := Bool.eq_false_iff.mpr c16
            subst c16
            have H1 : (fold_grid_sphere.j1 kj7 a1 a2 a0_1 false t131 false) = some (r1, r2, r3) := by rw [if_neg (show ¬ (false = true) by decide)] at H; exact H
            clear H
            have H := H1
            clear H1
            have H' := Aside0.mk H
            clear H
            go_wp2
            go_meet
            case rel => exact ⟨_, (false), (by (rfl)), H', ⟨by have := HJ7.out; (omega)⟩, ⟨by (with_reducible skip); exact BK129.out⟩, ⟨by repeat (with_reducible (exact HB.out))⟩⟩
        case rest =>
          clear HC15
          obtain ⟨kq, x43_14, rfl, HA, HJ14, BK129, HB⟩ := hcut
          cases kq with
          | zero => exact absurd HA.out (by simp [fold_grid_sphere.j1])
          | succ kj14 =>
            have H := HA.out
            clear HA
            simp only [fold_grid_sphere.j1] at H
            by_cases c18 : x43_14 = true
            · subst c18
              have H1 : (some (0, wrap64 (a0_1 - 1), true)) = some (r1, r2, r3) := by rw [if_pos rfl] at H; exact H
              clear H
              have H := H1
              clear H1
              simp only [Option.some.injEq, Prod.mk.injEq] at H
              obtain ⟨rfl, rfl, rfl⟩ := H
              go_wp2
              go_ret3
              exact ⟨by (rfl), by repeat (with_reducible (exact HB.out))⟩
            · replace c18 := Bool.eq_false_iff.mpr c18
              subst c18
              have H1 : (if t130 = true then (fold_grid_sphere.j2 kj14 a1 a2 a0_1 t130 t131) else (fold_grid_sphere.j2 kj14 a1 a2 a0_1 t130 false)) = some (r1, r2, r3) := by rw [if_neg (show ¬ (false = true) by decide)] at H; exact H
              clear H
              have H := H1
              clear H1
              have HC19 := Aside0.mk H
              clear H
              go_upto_region 8 with (fail)
              go_cut [55] (fun v55 wc => ∃ (kq : Nat) (x55_18 : Bool), v55 = .bool x55_18 ∧ Aside0 (fold_grid_sphere.j2 kq a1 a2 a0_1 t130 x55_18 = some (r1, r2, r3)) ∧ Aside0 (kq ≤ kj14) ∧ Aside0 (wc.heap[gb129]? = some (.cells #[.int .u8 a0_0, .int .i64 a0_1, .int .i64 a0_2, .int .u8 a0_3, .int .i64 a0_4, .int .i64 a0_5, .int .i64 a0_6] 56 (0, 0))) ∧ Aside0 (Below w.heap.size w wc))
              case first =>
                have H := HC19.out
                clear HC19
                by_cases c20 : t130 = true
                · subst c20
                  have H1 : (fold_grid_sphere.j2 kj14 a1 a2 a0_1 true t131) = some (r1, r2, r3) := by rw [if_pos rfl] at H; exact H
                  clear H
                  have H := H1
                  clear H1
                  have H' := Aside0.mk H
                  clear H
                  go_wp2
                  go_meet
                  case rel => exact ⟨_, (t131), (by (rfl)), H', ⟨by have := HJ7.out; have := HJ14.out; (omega)⟩, ⟨by (with_reducible skip); exact BK129.out⟩, ⟨by repeat (with_reducible (exact HB.out))⟩⟩
                · replace c20 := Bool.eq_false_iff.mpr c20
                  subst c20
                  have H1 : (fold_grid_sphere.j2 kj14 a1 a2 a0_1 false false) = some (r1, r2, r3) := by rw [if_neg (show ¬ (false = true) by decide)] at H; exact H
                  clear H
                  have H := H1
                  clear H1
                  have H' := Aside0.mk H
                  clear H
                  go_wp2
                  go_meet
                  case rel => exact ⟨_, (false), (by (rfl)), H', ⟨by have := HJ7.out; have := HJ14.out; (omega)⟩, ⟨by (with_reducible skip); exact BK129.out⟩, ⟨by repeat (with_reducible (exact HB.out))⟩⟩
              case rest =>
                clear HC19
                obtain ⟨kq, x55_18, rfl, HA, HJ18, BK129, HB⟩ := hcut
                cases kq with
                | zero => exact absurd HA.out (by simp [fold_grid_sphere.j2])
                | succ kj18 =>
                  have H := HA.out
                  clear HA
                  simp only [fold_grid_sphere.j2] at H
                  by_cases c21 : x55_18 = true
                  · subst c21
                    have H1 : (some (wrap64 (a0_1 - 1), 0, true)) = some (r1, r2, r3) := by rw [if_pos rfl] at H; exact H
                    clear H
                    have H := H1
                    clear H1
                    simp only [Option.some.injEq, Prod.mk.injEq] at H
                    obtain ⟨rfl, rfl, rfl⟩ := H
                    go_wp2
                    go_ret3
                    exact ⟨by (rfl), by repeat (with_reducible (exact HB.out))⟩
                  · replace c21 := Bool.eq_false_iff.mpr c21
                    subst c21
                    have H1 : (if t130 = true then (some (mx a2 0, mx a1 0, true)) else (some (mn a2 (wrap64 (a0_1 - 1)), mn a1 (wrap64 (a0_1 - 1)), true))) = some (r1, r2, r3) := by rw [if_neg (show ¬ (false = true) by decide)] at H; exact H
                    clear H
                    have H := H1
                    clear H1
                    by_cases c22 : t130 = true
                    · subst c22
                      have H1 : (some (mx a2 0, mx a1 0, true)) = some (r1, r2, r3) := by rw [if_pos rfl] at H; exact H
                      clear H
                      have H := H1
                      clear H1
                      obtain ⟨ji23, hji23⟩ : ∃ j_ : Int, (mx a2 0) = j_ := ⟨_, rfl⟩
                      replace H : (some (ji23, mx a1 0, true)) = some (r1, r2, r3) := by (rw [hji23] at H; exact H)
                      have hji23_ : (if a2 < 0 then 0 else a2) = ji23 := hji23
                      obtain ⟨ji24, hji24⟩ : ∃ j_ : Int, (mx a1 0) = j_ := ⟨_, rfl⟩
                      replace H : (some (ji23, ji24, true)) = some (r1, r2, r3) := by (rw [hji24] at H; exact H)
                      have hji24_ : (if a1 < 0 then 0 else a1) = ji24 := hji24
                      simp only [Option.some.injEq, Prod.mk.injEq] at H
                      obtain ⟨rfl, rfl, rfl⟩ := H
                      go_wp2
                      go_ret3
                      exact ⟨by (rfl), by repeat (with_reducible (exact HB.out))⟩
                    · replace c22 := Bool.eq_false_iff.mpr c22
                      subst c22
                      have H1 : (some (mn a2 (wrap64 (a0_1 - 1)), mn a1 (wrap64 (a0_1 - 1)), true)) = some (r1, r2, r3) := by rw [if_neg (show ¬ (false = true) by decide)] at H; exact H
                      clear H
                      have H := H1
                      clear H1
                      obtain ⟨ji25, hji25⟩ : ∃ j_ : Int, (mn a2 (wrap64 (a0_1 - 1))) = j_ := ⟨_, rfl⟩
                      replace H : (some (ji25, mn a1 (wrap64 (a0_1 - 1)), true)) = some (r1, r2, r3) := by (rw [hji25] at H; exact H)
                      have hji25_ : (if (wrap64 (a0_1 - 1)) < a2 then (wrap64 (a0_1 - 1)) else a2) = ji25 := hji25
                      obtain ⟨ji26, hji26⟩ : ∃ j_ : Int, (mn a1 (wrap64 (a0_1 - 1))) = j_ := ⟨_, rfl⟩
                      replace H : (some (ji25, ji26, true)) = some (r1, r2, r3) := by (rw [hji26] at H; exact H)
                      have hji26_ : (if (wrap64 (a0_1 - 1)) < a1 then (wrap64 (a0_1 - 1)) else a1) = ji26 := hji26
                      simp only [Option.some.injEq, Prod.mk.injEq] at H
                      obtain ⟨rfl, rfl, rfl⟩ := H
                      go_wp2
                      go_ret3
                      exact ⟨by (rfl), by repeat (with_reducible (exact HB.out))⟩

/-! ### fold_grid_place: function 21 -/
def fold_grid_place.f (a0_0 : Int) (a0_1 : Int) (a0_2 : Int) (a0_3 : Int) (a0_4 : Int) (a0_5 : Int) (a0_6 : Int) (a1 : Int) (a2 : Int) : Option (Int × Int) := if a0_1 > 0 then (if a0_2 > 0 then (some (wrap64 (a1 + a0_5), wrap64 (a2 + a0_6))) else (some (wrap64 (a1 + a0_5), a2))) else (if a0_2 > 0 then (some (a1, wrap64 (a2 + a0_6))) else (some (a1, a2)))
set_option maxHeartbeats 8000000 in
set_option maxRecDepth 100000 in
theorem fold_grid_place.calls (a0_0 : Int) (a0_1 : Int) (a0_2 : Int) (a0_3 : Int) (a0_4 : Int) (a0_5 : Int) (a0_6 : Int) (a1 : Int) (a2 : Int) (r1 : Int) (r2 : Int) (w : World) (h : fold_grid_place.f a0_0 a0_1 a0_2 a0_3 a0_4 a0_5 a0_6 a1 a2 = some (r1, r2)) :
    Calls Try.prog 21 #[.agg #[.int .u8 a0_0, .int .i64 a0_1, .int .i64 a0_2, .int .u8 a0_3, .int .i64 a0_4, .int .i64 a0_5, .int .i64 a0_6], .int .i64 a1, .int .i64 a2] w fun e w' => e = .returned (.agg #[.int .i64 r1, .int .i64 r2]) ∧ Below w.heap.size w w' := by
  have hu56 := Try.underlying56
  have hu33 := Try.underlying33
  have HB := Aside0.mk (Below.refl w.heap.size w)
  have H : (if a0_1 > 0 then (if a0_2 > 0 then (some (wrap64 (a1 + a0_5), wrap64 (a2 + a0_6))) else (some (wrap64 (a1 + a0_5), a2))) else (if a0_2 > 0 then (some (a1, wrap64 (a2 + a0_6))) else (some (a1, a2)))) = some (r1, r2) := h
  clear h
  by_cases c4 : a0_1 > 0
  · rw [if_pos c4] at H
    have c4b0 : decide (0 < a0_1) = true := decide_eq_true c4
    clear c4
    by_cases c5 : a0_2 > 0
    · rw [if_pos c5] at H
      have c5b0 : decide (0 < a0_2) = true := decide_eq_true c5
      clear c5
      simp only [Option.some.injEq, Prod.mk.injEq] at H
      obtain ⟨rfl, rfl⟩ := H
      go_enter Try.func21, Try.ntmps21
      go_wp2_with (first | ((with_reducible refine gate_dst (N := 3) rfl ?_); refine box_event ?hg (N := 3) ?hd (cs := #[.int .u8 a0_0, .int .i64 a0_1, .int .i64 a0_2, .int .u8 a0_3, .int .i64 a0_4, .int .i64 a0_5, .int .i64 a0_6]) (t := 56) ?hr ?_; (case hd => rfl); (case hg => rfl); (case hr => (go_simp; done)); intro gb134 hg w6 hbox hb; have BK134 := Aside0.mk hbox; have GW134 := Aside0.mk ((by rw [hg]; exact (below_size HB.out) : w.heap.size ≤ gb134)); have GE134 := Aside0.mk ((by rw [hg]; exact (below_size HB.out) : w.heap.size ≤ gb134)); replace HB := Aside0.mk (below_step HB.out hb); clear hb hbox hg) | ((with_reducible refine gate_dst (N := 6) rfl ?_); refine box_event ?hg (N := 6) ?hd (cs := #[.int .i64 0, .int .i64 0]) (t := 33) ?hr ?_; (case hd => rfl); (case hg => rfl); (case hr => (go_simp; done)); intro gb135 hg w7 hbox hb; have BK135 := Aside0.mk hbox; have GW135 := Aside0.mk ((by rw [hg]; exact (below_size HB.out) : w.heap.size ≤ gb135)); have GE135 := Aside0.mk ((by rw [hg]; exact (below_size HB.out) : w.heap.size ≤ gb135)); have NB134_135 := Aside0.mk ((by rw [hg]; exact Nat.ne_of_lt (blk_lt BK134.out) : gb134 ≠ gb135)); have NB135_134 := Aside0.mk ((by rw [hg]; exact Nat.ne_of_gt (blk_lt BK134.out) : gb135 ≠ gb134)); replace BK134 := Aside0.mk (blk_below BK134.out hb); replace HB := Aside0.mk (below_step HB.out hb); clear hb hbox hg; have hnb8 := NB134_135.out; have hnc8 := NB135_134.out; have hcz9_0 : w7.cell? ⟨gb134, 0, none⟩ = some (.int .u8 a0_0) := (blk_cell BK134.out 0).trans rfl; have hcz9_1 : w7.cell? ⟨gb134, 1, none⟩ = some (.int .i64 a0_1) := (blk_cell BK134.out 1).trans rfl; have hcz9_2 : w7.cell? ⟨gb134, 2, none⟩ = some (.int .i64 a0_2) := (blk_cell BK134.out 2).trans rfl; have hcz9_3 : w7.cell? ⟨gb134, 3, none⟩ = some (.int .u8 a0_3) := (blk_cell BK134.out 3).trans rfl; have hcz9_4 : w7.cell? ⟨gb134, 4, none⟩ = some (.int .i64 a0_4) := (blk_cell BK134.out 4).trans rfl; have hcz9_5 : w7.cell? ⟨gb134, 5, none⟩ = some (.int .i64 a0_5) := (blk_cell BK134.out 5).trans rfl; have hcz9_6 : w7.cell? ⟨gb134, 6, none⟩ = some (.int .i64 a0_6) := (blk_cell BK134.out 6).trans rfl; have hfz9_0 := blk_frozen BK134.out 0; have hfz9_1 := blk_frozen BK134.out 1; have hfz9_2 := blk_frozen BK134.out 2; have hfz9_3 := blk_frozen BK134.out 3; have hfz9_4 := blk_frozen BK134.out 4; have hfz9_5 := blk_frozen BK134.out 5; have hfz9_6 := blk_frozen BK134.out 6; have hcz10_0 : w7.cell? ⟨gb135, 0, none⟩ = some (.int .i64 0) := (blk_cell BK135.out 0).trans rfl; have hcz10_1 : w7.cell? ⟨gb135, 1, none⟩ = some (.int .i64 0) := (blk_cell BK135.out 1).trans rfl; have hfz10_0 := blk_frozen BK135.out 0; have hfz10_1 := blk_frozen BK135.out 1))
      refine bodyPost_ret (results_cell_row rfl _ _ gb135 33 #[.int .i64 (wrap64 (a1 + a0_5)), .int .i64 (wrap64 (a2 + a0_6))] (0, 0) _ rfl (by (with_reducible skip); refine blk_put (cs := #[.int .i64 (wrap64 (a1 + a0_5)), .int .i64 0]) ?_ 1 _ rfl; (with_reducible skip); refine blk_put (cs := #[.int .i64 0, .int .i64 0]) ?_ 0 _ rfl; (with_reducible skip); exact BK135.out) Try.underlying33 rfl (by kernel_rfl)) rfl ?_
      exact ⟨by (rfl), by repeat (with_reducible first | exact HB.out | refine below_set ?_ GE135.out)⟩
    · rw [if_neg c5] at H
      have c5b0 : decide (0 < a0_2) = false := decide_eq_false c5
      clear c5
      simp only [Option.some.injEq, Prod.mk.injEq] at H
      obtain ⟨rfl, rfl⟩ := H
      go_enter Try.func21, Try.ntmps21
      go_wp2_with (first | ((with_reducible refine gate_dst (N := 3) rfl ?_); refine box_event ?hg (N := 3) ?hd (cs := #[.int .u8 a0_0, .int .i64 a0_1, .int .i64 a0_2, .int .u8 a0_3, .int .i64 a0_4, .int .i64 a0_5, .int .i64 a0_6]) (t := 56) ?hr ?_; (case hd => rfl); (case hg => rfl); (case hr => (go_simp; done)); intro gb134 hg w11 hbox hb; have BK134 := Aside0.mk hbox; have GW134 := Aside0.mk ((by rw [hg]; exact (below_size HB.out) : w.heap.size ≤ gb134)); have GE134 := Aside0.mk ((by rw [hg]; exact (below_size HB.out) : w.heap.size ≤ gb134)); replace HB := Aside0.mk (below_step HB.out hb); clear hb hbox hg) | ((with_reducible refine gate_dst (N := 6) rfl ?_); refine box_event ?hg (N := 6) ?hd (cs := #[.int .i64 0, .int .i64 0]) (t := 33) ?hr ?_; (case hd => rfl); (case hg => rfl); (case hr => (go_simp; done)); intro gb135 hg w12 hbox hb; have BK135 := Aside0.mk hbox; have GW135 := Aside0.mk ((by rw [hg]; exact (below_size HB.out) : w.heap.size ≤ gb135)); have GE135 := Aside0.mk ((by rw [hg]; exact (below_size HB.out) : w.heap.size ≤ gb135)); have NB134_135 := Aside0.mk ((by rw [hg]; exact Nat.ne_of_lt (blk_lt BK134.out) : gb134 ≠ gb135)); have NB135_134 := Aside0.mk ((by rw [hg]; exact Nat.ne_of_gt (blk_lt BK134.out) : gb135 ≠ gb134)); replace BK134 := Aside0.mk (blk_below BK134.out hb); replace HB := Aside0.mk (below_step HB.out hb); clear hb hbox hg; have hnb13 := NB134_135.out; have hnc13 := NB135_134.out; have hcz14_0 : w12.cell? ⟨gb134, 0, none⟩ = some (.int .u8 a0_0) := (blk_cell BK134.out 0).trans rfl; have hcz14_1 : w12.cell? ⟨gb134, 1, none⟩ = some (.int .i64 a0_1) := (blk_cell BK134.out 1).trans rfl; have hcz14_2 : w12.cell? ⟨gb134, 2, none⟩ = some (.int .i64 a0_2) := (blk_cell BK134.out 2).trans rfl; have hcz14_3 : w12.cell? ⟨gb134, 3, none⟩ = some (.int .u8 a0_3) := (blk_cell BK134.out 3).trans rfl; have hcz14_4 : w12.cell? ⟨gb134, 4, none⟩ = some (.int .i64 a0_4) := (blk_cell BK134.out 4).trans rfl; have hcz14_5 : w12.cell? ⟨gb134, 5, none⟩ = some (.int .i64 a0_5) := (blk_cell BK134.out 5).trans rfl; have hcz14_6 : w12.cell? ⟨gb134, 6, none⟩ = some (.int .i64 a0_6) := (blk_cell BK134.out 6).trans rfl; have hfz14_0 := blk_frozen BK134.out 0; have hfz14_1 := blk_frozen BK134.out 1; have hfz14_2 := blk_frozen BK134.out 2; have hfz14_3 := blk_frozen BK134.out 3; have hfz14_4 := blk_frozen BK134.out 4; have hfz14_5 := blk_frozen BK134.out 5; have hfz14_6 := blk_frozen BK134.out 6; have hcz15_0 : w12.cell? ⟨gb135, 0, none⟩ = some (.int .i64 0) := (blk_cell BK135.out 0).trans rfl; have hcz15_1 : w12.cell? ⟨gb135, 1, none⟩ = some (.int .i64 0) := (blk_cell BK135.out 1).trans rfl; have hfz15_0 := blk_frozen BK135.out 0; have hfz15_1 := blk_frozen BK135.out 1))
      refine bodyPost_ret (results_cell_row rfl _ _ gb135 33 #[.int .i64 (wrap64 (a1 + a0_5)), .int .i64 a2] (0, 0) _ rfl (by (with_reducible skip); refine blk_put (cs := #[.int .i64 (wrap64 (a1 + a0_5)), .int .i64 0]) ?_ 1 _ rfl; (with_reducible skip); refine blk_put (cs := #[.int .i64 0, .int .i64 0]) ?_ 0 _ rfl; (with_reducible skip); exact BK135.out) Try.underlying33 rfl (by kernel_rfl)) rfl ?_
      exact ⟨by (rfl), by repeat (with_reducible first | exact HB.out | refine below_set ?_ GE135.out)⟩
  · rw [if_neg c4] at H
    have c4b0 : decide (0 < a0_1) = false := decide_eq_false c4
    clear c4
    by_cases c16 : a0_2 > 0
    · rw [if_pos c16] at H
      have c16b0 : decide (0 < a0_2) = true := decide_eq_true c16
      clear c16
      simp only [Option.some.injEq, Prod.mk.injEq] at H
      obtain ⟨rfl, rfl⟩ := H
      go_enter Try.func21, Try.ntmps21
      go_wp2_with (first | ((with_reducible refine gate_dst (N := 3) rfl ?_); refine box_event ?hg (N := 3) ?hd (cs := #[.int .u8 a0_0, .int .i64 a0_1, .int .i64 a0_2, .int .u8 a0_3, .int .i64 a0_4, .int .i64 a0_5, .int .i64 a0_6]) (t := 56) ?hr ?_; (case hd => rfl); (case hg => rfl); (case hr => (go_simp; done)); intro gb134 hg w17 hbox hb; have BK134 := Aside0.mk hbox; have GW134 := Aside0.mk ((by rw [hg]; exact (below_size HB.out) : w.heap.size ≤ gb134)); have GE134 := Aside0.mk ((by rw [hg]; exact (below_size HB.out) : w.heap.size ≤ gb134)); replace HB := Aside0.mk (below_step HB.out hb); clear hb hbox hg) | ((with_reducible refine gate_dst (N := 6) rfl ?_); refine box_event ?hg (N := 6) ?hd (cs := #[.int .i64 0, .int .i64 0]) (t := 33) ?hr ?_; (case hd => rfl); (case hg => rfl); (case hr => (go_simp; done)); intro gb135 hg w18 hbox hb; have BK135 := Aside0.mk hbox; have GW135 := Aside0.mk ((by rw [hg]; exact (below_size HB.out) : w.heap.size ≤ gb135)); have GE135 := Aside0.mk ((by rw [hg]; exact (below_size HB.out) : w.heap.size ≤ gb135)); have NB134_135 := Aside0.mk ((by rw [hg]; exact Nat.ne_of_lt (blk_lt BK134.out) : gb134 ≠ gb135)); have NB135_134 := Aside0.mk ((by rw [hg]; exact Nat.ne_of_gt (blk_lt BK134.out) : gb135 ≠ gb134)); replace BK134 := Aside0.mk (blk_below BK134.out hb); replace HB := Aside0.mk (below_step HB.out hb); clear hb hbox hg; have hnb19 := NB134_135.out; have hnc19 := NB135_134.out; have hcz20_0 : w18.cell? ⟨gb134, 0, none⟩ = some (.int .u8 a0_0) := (blk_cell BK134.out 0).trans rfl; have hcz20_1 : w18.cell? ⟨gb134, 1, none⟩ = some (.int .i64 a0_1) := (blk_cell BK134.out 1).trans rfl; have hcz20_2 : w18.cell? ⟨gb134, 2, none⟩ = some (.int .i64 a0_2) := (blk_cell BK134.out 2).trans rfl; have hcz20_3 : w18.cell? ⟨gb134, 3, none⟩ = some (.int .u8 a0_3) := (blk_cell BK134.out 3).trans rfl; have hcz20_4 : w18.cell? ⟨gb134, 4, none⟩ = some (.int .i64 a0_4) := (blk_cell BK134.out 4).trans rfl; have hcz20_5 : w18.cell? ⟨gb134, 5, none⟩ = some (.int .i64 a0_5) := (blk_cell BK134.out 5).trans rfl; have hcz20_6 : w18.cell? ⟨gb134, 6, none⟩ = some (.int .i64 a0_6) := (blk_cell BK134.out 6).trans rfl; have hfz20_0 := blk_frozen BK134.out 0; have hfz20_1 := blk_frozen BK134.out 1; have hfz20_2 := blk_frozen BK134.out 2; have hfz20_3 := blk_frozen BK134.out 3; have hfz20_4 := blk_frozen BK134.out 4; have hfz20_5 := blk_frozen BK134.out 5; have hfz20_6 := blk_frozen BK134.out 6; have hcz21_0 : w18.cell? ⟨gb135, 0, none⟩ = some (.int .i64 0) := (blk_cell BK135.out 0).trans rfl; have hcz21_1 : w18.cell? ⟨gb135, 1, none⟩ = some (.int .i64 0) := (blk_cell BK135.out 1).trans rfl; have hfz21_0 := blk_frozen BK135.out 0; have hfz21_1 := blk_frozen BK135.out 1))
      refine bodyPost_ret (results_cell_row rfl _ _ gb135 33 #[.int .i64 a1, .int .i64 (wrap64 (a2 + a0_6))] (0, 0) _ rfl (by (with_reducible skip); refine blk_put (cs := #[.int .i64 a1, .int .i64 0]) ?_ 1 _ rfl; (with_reducible skip); refine blk_put (cs := #[.int .i64 0, .int .i64 0]) ?_ 0 _ rfl; (with_reducible skip); exact BK135.out) Try.underlying33 rfl (by kernel_rfl)) rfl ?_
      exact ⟨by (rfl), by repeat (with_reducible first | exact HB.out | refine below_set ?_ GE135.out)⟩
    · rw [if_neg c16] at H
      have c16b0 : decide (0 < a0_2) = false := decide_eq_false c16
      clear c16
      simp only [Option.some.injEq, Prod.mk.injEq] at H
      obtain ⟨rfl, rfl⟩ := H
      go_enter Try.func21, Try.ntmps21
      go_wp2_with (first | ((with_reducible refine gate_dst (N := 3) rfl ?_); refine box_event ?hg (N := 3) ?hd (cs := #[.int .u8 a0_0, .int .i64 a0_1, .int .i64 a0_2, .int .u8 a0_3, .int .i64 a0_4, .int .i64 a0_5, .int .i64 a0_6]) (t := 56) ?hr ?_; (case hd => rfl); (case hg => rfl); (case hr => (go_simp; done)); intro gb134 hg w22 hbox hb; have BK134 := Aside0.mk hbox; have GW134 := Aside0.mk ((by rw [hg]; exact (below_size HB.out) : w.heap.size ≤ gb134)); have GE134 := Aside0.mk ((by rw [hg]; exact (below_size HB.out) : w.heap.size ≤ gb134)); replace HB := Aside0.mk (below_step HB.out hb); clear hb hbox hg) | ((with_reducible refine gate_dst (N := 6) rfl ?_); refine box_event ?hg (N := 6) ?hd (cs := #[.int .i64 0, .int .i64 0]) (t := 33) ?hr ?_; (case hd => rfl); (case hg => rfl); (case hr => (go_simp; done)); intro gb135 hg w23 hbox hb; have BK135 := Aside0.mk hbox; have GW135 := Aside0.mk ((by rw [hg]; exact (below_size HB.out) : w.heap.size ≤ gb135)); have GE135 := Aside0.mk ((by rw [hg]; exact (below_size HB.out) : w.heap.size ≤ gb135)); have NB134_135 := Aside0.mk ((by rw [hg]; exact Nat.ne_of_lt (blk_lt BK134.out) : gb134 ≠ gb135)); have NB135_134 := Aside0.mk ((by rw [hg]; exact Nat.ne_of_gt (blk_lt BK134.out) : gb135 ≠ gb134)); replace BK134 := Aside0.mk (blk_below BK134.out hb); replace HB := Aside0.mk (below_step HB.out hb); clear hb hbox hg; have hnb24 := NB134_135.out; have hnc24 := NB135_134.out; have hcz25_0 : w23.cell? ⟨gb134, 0, none⟩ = some (.int .u8 a0_0) := (blk_cell BK134.out 0).trans rfl; have hcz25_1 : w23.cell? ⟨gb134, 1, none⟩ = some (.int .i64 a0_1) := (blk_cell BK134.out 1).trans rfl; have hcz25_2 : w23.cell? ⟨gb134, 2, none⟩ = some (.int .i64 a0_2) := (blk_cell BK134.out 2).trans rfl; have hcz25_3 : w23.cell? ⟨gb134, 3, none⟩ = some (.int .u8 a0_3) := (blk_cell BK134.out 3).trans rfl; have hcz25_4 : w23.cell? ⟨gb134, 4, none⟩ = some (.int .i64 a0_4) := (blk_cell BK134.out 4).trans rfl; have hcz25_5 : w23.cell? ⟨gb134, 5, none⟩ = some (.int .i64 a0_5) := (blk_cell BK134.out 5).trans rfl; have hcz25_6 : w23.cell? ⟨gb134, 6, none⟩ = some (.int .i64 a0_6) := (blk_cell BK134.out 6).trans rfl; have hfz25_0 := blk_frozen BK134.out 0; have hfz25_1 := blk_frozen BK134.out 1; have hfz25_2 := blk_frozen BK134.out 2; have hfz25_3 := blk_frozen BK134.out 3; have hfz25_4 := blk_frozen BK134.out 4; have hfz25_5 := blk_frozen BK134.out 5; have hfz25_6 := blk_frozen BK134.out 6; have hcz26_0 : w23.cell? ⟨gb135, 0, none⟩ = some (.int .i64 0) := (blk_cell BK135.out 0).trans rfl; have hcz26_1 : w23.cell? ⟨gb135, 1, none⟩ = some (.int .i64 0) := (blk_cell BK135.out 1).trans rfl; have hfz26_0 := blk_frozen BK135.out 0; have hfz26_1 := blk_frozen BK135.out 1))
      refine bodyPost_ret (results_cell_row rfl _ _ gb135 33 #[.int .i64 a1, .int .i64 a2] (0, 0) _ rfl (by (with_reducible skip); refine blk_put (cs := #[.int .i64 a1, .int .i64 0]) ?_ 1 _ rfl; (with_reducible skip); refine blk_put (cs := #[.int .i64 0, .int .i64 0]) ?_ 0 _ rfl; (with_reducible skip); exact BK135.out) Try.underlying33 rfl (by kernel_rfl)) rfl ?_
      exact ⟨by (rfl), by repeat (with_reducible first | exact HB.out | refine below_set ?_ GE135.out)⟩

/-! ### fold_grid_home: function 19 -/
def fold_grid_home.f (a0_0 : Int) (a0_1 : Int) (a0_2 : Int) (a0_3 : Int) (a0_4 : Int) (a0_5 : Int) (a0_6 : Int) (a1_0 : Int) (a1_1 : Int) : Option (Int × Int) := if a0_1 > 0 then (if a0_2 > 0 then (some (wrap64 (a1_0 - a0_5), wrap64 (a1_1 - a0_6))) else (some (wrap64 (a1_0 - a0_5), a1_1))) else (if a0_2 > 0 then (some (a1_0, wrap64 (a1_1 - a0_6))) else (some (a1_0, a1_1)))
set_option maxHeartbeats 8000000 in
set_option maxRecDepth 100000 in
theorem fold_grid_home.calls (a0_0 : Int) (a0_1 : Int) (a0_2 : Int) (a0_3 : Int) (a0_4 : Int) (a0_5 : Int) (a0_6 : Int) (a1_0 : Int) (a1_1 : Int) (r1 : Int) (r2 : Int) (w : World) (h : fold_grid_home.f a0_0 a0_1 a0_2 a0_3 a0_4 a0_5 a0_6 a1_0 a1_1 = some (r1, r2)) :
    Calls Try.prog 19 #[.agg #[.int .u8 a0_0, .int .i64 a0_1, .int .i64 a0_2, .int .u8 a0_3, .int .i64 a0_4, .int .i64 a0_5, .int .i64 a0_6], .agg #[.int .i64 a1_0, .int .i64 a1_1]] w fun e w' => e = .returned (.tuple #[.int .i64 r1, .int .i64 r2]) ∧ Below w.heap.size w w' := by
  have hu56 := Try.underlying56
  have hu33 := Try.underlying33
  have HB := Aside0.mk (Below.refl w.heap.size w)
  have H : (if a0_1 > 0 then (if a0_2 > 0 then (some (wrap64 (a1_0 - a0_5), wrap64 (a1_1 - a0_6))) else (some (wrap64 (a1_0 - a0_5), a1_1))) else (if a0_2 > 0 then (some (a1_0, wrap64 (a1_1 - a0_6))) else (some (a1_0, a1_1)))) = some (r1, r2) := h
  clear h
  by_cases c3 : a0_1 > 0
  · rw [if_pos c3] at H
    have c3b0 : decide (0 < a0_1) = true := decide_eq_true c3
    clear c3
    by_cases c4 : a0_2 > 0
    · rw [if_pos c4] at H
      have c4b0 : decide (0 < a0_2) = true := decide_eq_true c4
      clear c4
      simp only [Option.some.injEq, Prod.mk.injEq] at H
      obtain ⟨rfl, rfl⟩ := H
      go_enter Try.func19, Try.ntmps19
      go_wp2_with (first | ((with_reducible refine gate_dst (N := 2) rfl ?_); refine box_event ?hg (N := 2) ?hd (cs := #[.int .u8 a0_0, .int .i64 a0_1, .int .i64 a0_2, .int .u8 a0_3, .int .i64 a0_4, .int .i64 a0_5, .int .i64 a0_6]) (t := 56) ?hr ?_; (case hd => rfl); (case hg => rfl); (case hr => (go_simp; done)); intro gb136 hg w5 hbox hb; have BK136 := Aside0.mk hbox; have GW136 := Aside0.mk ((by rw [hg]; exact (below_size HB.out) : w.heap.size ≤ gb136)); have GE136 := Aside0.mk ((by rw [hg]; exact (below_size HB.out) : w.heap.size ≤ gb136)); replace HB := Aside0.mk (below_step HB.out hb); clear hb hbox hg) | ((with_reducible refine gate_dst (N := 3) rfl ?_); refine box_event ?hg (N := 3) ?hd (cs := #[.int .i64 a1_0, .int .i64 a1_1]) (t := 33) ?hr ?_; (case hd => rfl); (case hg => rfl); (case hr => (go_simp; done)); intro gb137 hg w6 hbox hb; have BK137 := Aside0.mk hbox; have GW137 := Aside0.mk ((by rw [hg]; exact (below_size HB.out) : w.heap.size ≤ gb137)); have GE137 := Aside0.mk ((by rw [hg]; exact (below_size HB.out) : w.heap.size ≤ gb137)); have NB136_137 := Aside0.mk ((by rw [hg]; exact Nat.ne_of_lt (blk_lt BK136.out) : gb136 ≠ gb137)); have NB137_136 := Aside0.mk ((by rw [hg]; exact Nat.ne_of_gt (blk_lt BK136.out) : gb137 ≠ gb136)); replace BK136 := Aside0.mk (blk_below BK136.out hb); replace HB := Aside0.mk (below_step HB.out hb); clear hb hbox hg; have hnb7 := NB136_137.out; have hnc7 := NB137_136.out; have hcz8_0 : w6.cell? ⟨gb136, 0, none⟩ = some (.int .u8 a0_0) := (blk_cell BK136.out 0).trans rfl; have hcz8_1 : w6.cell? ⟨gb136, 1, none⟩ = some (.int .i64 a0_1) := (blk_cell BK136.out 1).trans rfl; have hcz8_2 : w6.cell? ⟨gb136, 2, none⟩ = some (.int .i64 a0_2) := (blk_cell BK136.out 2).trans rfl; have hcz8_3 : w6.cell? ⟨gb136, 3, none⟩ = some (.int .u8 a0_3) := (blk_cell BK136.out 3).trans rfl; have hcz8_4 : w6.cell? ⟨gb136, 4, none⟩ = some (.int .i64 a0_4) := (blk_cell BK136.out 4).trans rfl; have hcz8_5 : w6.cell? ⟨gb136, 5, none⟩ = some (.int .i64 a0_5) := (blk_cell BK136.out 5).trans rfl; have hcz8_6 : w6.cell? ⟨gb136, 6, none⟩ = some (.int .i64 a0_6) := (blk_cell BK136.out 6).trans rfl; have hfz8_0 := blk_frozen BK136.out 0; have hfz8_1 := blk_frozen BK136.out 1; have hfz8_2 := blk_frozen BK136.out 2; have hfz8_3 := blk_frozen BK136.out 3; have hfz8_4 := blk_frozen BK136.out 4; have hfz8_5 := blk_frozen BK136.out 5; have hfz8_6 := blk_frozen BK136.out 6; have hcz9_0 : w6.cell? ⟨gb137, 0, none⟩ = some (.int .i64 a1_0) := (blk_cell BK137.out 0).trans rfl; have hcz9_1 : w6.cell? ⟨gb137, 1, none⟩ = some (.int .i64 a1_1) := (blk_cell BK137.out 1).trans rfl; have hfz9_0 := blk_frozen BK137.out 0; have hfz9_1 := blk_frozen BK137.out 1))
      repeat (go_quiet ((((with_reducible refine gate_dst (N := 2) rfl ?_); refine box_event ?hg (N := 2) ?hd (cs := #[.int .u8 a0_0, .int .i64 a0_1, .int .i64 a0_2, .int .u8 a0_3, .int .i64 a0_4, .int .i64 a0_5, .int .i64 a0_6]) (t := 56) ?hr ?_; (case hd => rfl); (case hg => rfl); (case hr => (go_simp; rfl)); intro gb136 hg w5 hbox hb; have BK136 := Aside0.mk hbox; have GW136 := Aside0.mk ((by rw [hg]; exact (below_size (by skip)) : w.heap.size ≤ gb136)); have GE136 := Aside0.mk ((by rw [hg]; exact (below_size (by skip)) : w.heap.size ≤ gb136)); replace HB := Aside0.mk (below_step (by skip) hb); clear hb hbox hg))); try go_wp2_with ((((with_reducible refine gate_dst (N := 2) rfl ?_); refine box_event ?hg (N := 2) ?hd (cs := #[.int .u8 a0_0, .int .i64 a0_1, .int .i64 a0_2, .int .u8 a0_3, .int .i64 a0_4, .int .i64 a0_5, .int .i64 a0_6]) (t := 56) ?hr ?_; (case hd => rfl); (case hg => rfl); (case hr => (go_simp; rfl)); intro gb136 hg w5 hbox hb; have BK136 := Aside0.mk hbox; have GW136 := Aside0.mk ((by rw [hg]; exact (below_size (by skip)) : w.heap.size ≤ gb136)); have GE136 := Aside0.mk ((by rw [hg]; exact (below_size (by skip)) : w.heap.size ≤ gb136)); replace HB := Aside0.mk (below_step (by skip) hb); clear hb hbox hg))))
      go_ret2
      exact ⟨by (rfl), by repeat (with_reducible first | exact HB.out | apply pw_below_drewN | refine below_set ?_ GE137.out)⟩
    · rw [if_neg c4] at H
      have c4b0 : decide (0 < a0_2) = false := decide_eq_false c4
      clear c4
      simp only [Option.some.injEq, Prod.mk.injEq] at H
      obtain ⟨rfl, rfl⟩ := H
      go_enter Try.func19, Try.ntmps19
      go_wp2_with (first | ((with_reducible refine gate_dst (N := 2) rfl ?_); refine box_event ?hg (N := 2) ?hd (cs := #[.int .u8 a0_0, .int .i64 a0_1, .int .i64 a0_2, .int .u8 a0_3, .int .i64 a0_4, .int .i64 a0_5, .int .i64 a0_6]) (t := 56) ?hr ?_; (case hd => rfl); (case hg => rfl); (case hr => (go_simp; done)); intro gb136 hg w10 hbox hb; have BK136 := Aside0.mk hbox; have GW136 := Aside0.mk ((by rw [hg]; exact (below_size HB.out) : w.heap.size ≤ gb136)); have GE136 := Aside0.mk ((by rw [hg]; exact (below_size HB.out) : w.heap.size ≤ gb136)); replace HB := Aside0.mk (below_step HB.out hb); clear hb hbox hg) | ((with_reducible refine gate_dst (N := 3) rfl ?_); refine box_event ?hg (N := 3) ?hd (cs := #[.int .i64 a1_0, .int .i64 a1_1]) (t := 33) ?hr ?_; (case hd => rfl); (case hg => rfl); (case hr => (go_simp; done)); intro gb137 hg w11 hbox hb; have BK137 := Aside0.mk hbox; have GW137 := Aside0.mk ((by rw [hg]; exact (below_size HB.out) : w.heap.size ≤ gb137)); have GE137 := Aside0.mk ((by rw [hg]; exact (below_size HB.out) : w.heap.size ≤ gb137)); have NB136_137 := Aside0.mk ((by rw [hg]; exact Nat.ne_of_lt (blk_lt BK136.out) : gb136 ≠ gb137)); have NB137_136 := Aside0.mk ((by rw [hg]; exact Nat.ne_of_gt (blk_lt BK136.out) : gb137 ≠ gb136)); replace BK136 := Aside0.mk (blk_below BK136.out hb); replace HB := Aside0.mk (below_step HB.out hb); clear hb hbox hg; have hnb12 := NB136_137.out; have hnc12 := NB137_136.out; have hcz13_0 : w11.cell? ⟨gb136, 0, none⟩ = some (.int .u8 a0_0) := (blk_cell BK136.out 0).trans rfl; have hcz13_1 : w11.cell? ⟨gb136, 1, none⟩ = some (.int .i64 a0_1) := (blk_cell BK136.out 1).trans rfl; have hcz13_2 : w11.cell? ⟨gb136, 2, none⟩ = some (.int .i64 a0_2) := (blk_cell BK136.out 2).trans rfl; have hcz13_3 : w11.cell? ⟨gb136, 3, none⟩ = some (.int .u8 a0_3) := (blk_cell BK136.out 3).trans rfl; have hcz13_4 : w11.cell? ⟨gb136, 4, none⟩ = some (.int .i64 a0_4) := (blk_cell BK136.out 4).trans rfl; have hcz13_5 : w11.cell? ⟨gb136, 5, none⟩ = some (.int .i64 a0_5) := (blk_cell BK136.out 5).trans rfl; have hcz13_6 : w11.cell? ⟨gb136, 6, none⟩ = some (.int .i64 a0_6) := (blk_cell BK136.out 6).trans rfl; have hfz13_0 := blk_frozen BK136.out 0; have hfz13_1 := blk_frozen BK136.out 1; have hfz13_2 := blk_frozen BK136.out 2; have hfz13_3 := blk_frozen BK136.out 3; have hfz13_4 := blk_frozen BK136.out 4; have hfz13_5 := blk_frozen BK136.out 5; have hfz13_6 := blk_frozen BK136.out 6; have hcz14_0 : w11.cell? ⟨gb137, 0, none⟩ = some (.int .i64 a1_0) := (blk_cell BK137.out 0).trans rfl; have hcz14_1 : w11.cell? ⟨gb137, 1, none⟩ = some (.int .i64 a1_1) := (blk_cell BK137.out 1).trans rfl; have hfz14_0 := blk_frozen BK137.out 0; have hfz14_1 := blk_frozen BK137.out 1))
      repeat (go_quiet ((((with_reducible refine gate_dst (N := 2) rfl ?_); refine box_event ?hg (N := 2) ?hd (cs := #[.int .u8 a0_0, .int .i64 a0_1, .int .i64 a0_2, .int .u8 a0_3, .int .i64 a0_4, .int .i64 a0_5, .int .i64 a0_6]) (t := 56) ?hr ?_; (case hd => rfl); (case hg => rfl); (case hr => (go_simp; rfl)); intro gb136 hg w10 hbox hb; have BK136 := Aside0.mk hbox; have GW136 := Aside0.mk ((by rw [hg]; exact (below_size (by skip)) : w.heap.size ≤ gb136)); have GE136 := Aside0.mk ((by rw [hg]; exact (below_size (by skip)) : w.heap.size ≤ gb136)); replace HB := Aside0.mk (below_step (by skip) hb); clear hb hbox hg))); try go_wp2_with ((((with_reducible refine gate_dst (N := 2) rfl ?_); refine box_event ?hg (N := 2) ?hd (cs := #[.int .u8 a0_0, .int .i64 a0_1, .int .i64 a0_2, .int .u8 a0_3, .int .i64 a0_4, .int .i64 a0_5, .int .i64 a0_6]) (t := 56) ?hr ?_; (case hd => rfl); (case hg => rfl); (case hr => (go_simp; rfl)); intro gb136 hg w10 hbox hb; have BK136 := Aside0.mk hbox; have GW136 := Aside0.mk ((by rw [hg]; exact (below_size (by skip)) : w.heap.size ≤ gb136)); have GE136 := Aside0.mk ((by rw [hg]; exact (below_size (by skip)) : w.heap.size ≤ gb136)); replace HB := Aside0.mk (below_step (by skip) hb); clear hb hbox hg))))
      go_ret2
      exact ⟨by (rfl), by repeat (with_reducible first | exact HB.out | apply pw_below_drewN | refine below_set ?_ GE137.out)⟩
  · rw [if_neg c3] at H
    have c3b0 : decide (0 < a0_1) = false := decide_eq_false c3
    clear c3
    by_cases c15 : a0_2 > 0
    · rw [if_pos c15] at H
      have c15b0 : decide (0 < a0_2) = true := decide_eq_true c15
      clear c15
      simp only [Option.some.injEq, Prod.mk.injEq] at H
      obtain ⟨rfl, rfl⟩ := H
      go_enter Try.func19, Try.ntmps19
      go_wp2_with (first | ((with_reducible refine gate_dst (N := 2) rfl ?_); refine box_event ?hg (N := 2) ?hd (cs := #[.int .u8 a0_0, .int .i64 a0_1, .int .i64 a0_2, .int .u8 a0_3, .int .i64 a0_4, .int .i64 a0_5, .int .i64 a0_6]) (t := 56) ?hr ?_; (case hd => rfl); (case hg => rfl); (case hr => (go_simp; done)); intro gb136 hg w16 hbox hb; have BK136 := Aside0.mk hbox; have GW136 := Aside0.mk ((by rw [hg]; exact (below_size HB.out) : w.heap.size ≤ gb136)); have GE136 := Aside0.mk ((by rw [hg]; exact (below_size HB.out) : w.heap.size ≤ gb136)); replace HB := Aside0.mk (below_step HB.out hb); clear hb hbox hg) | ((with_reducible refine gate_dst (N := 3) rfl ?_); refine box_event ?hg (N := 3) ?hd (cs := #[.int .i64 a1_0, .int .i64 a1_1]) (t := 33) ?hr ?_; (case hd => rfl); (case hg => rfl); (case hr => (go_simp; done)); intro gb137 hg w17 hbox hb; have BK137 := Aside0.mk hbox; have GW137 := Aside0.mk ((by rw [hg]; exact (below_size HB.out) : w.heap.size ≤ gb137)); have GE137 := Aside0.mk ((by rw [hg]; exact (below_size HB.out) : w.heap.size ≤ gb137)); have NB136_137 := Aside0.mk ((by rw [hg]; exact Nat.ne_of_lt (blk_lt BK136.out) : gb136 ≠ gb137)); have NB137_136 := Aside0.mk ((by rw [hg]; exact Nat.ne_of_gt (blk_lt BK136.out) : gb137 ≠ gb136)); replace BK136 := Aside0.mk (blk_below BK136.out hb); replace HB := Aside0.mk (below_step HB.out hb); clear hb hbox hg; have hnb18 := NB136_137.out; have hnc18 := NB137_136.out; have hcz19_0 : w17.cell? ⟨gb136, 0, none⟩ = some (.int .u8 a0_0) := (blk_cell BK136.out 0).trans rfl; have hcz19_1 : w17.cell? ⟨gb136, 1, none⟩ = some (.int .i64 a0_1) := (blk_cell BK136.out 1).trans rfl; have hcz19_2 : w17.cell? ⟨gb136, 2, none⟩ = some (.int .i64 a0_2) := (blk_cell BK136.out 2).trans rfl; have hcz19_3 : w17.cell? ⟨gb136, 3, none⟩ = some (.int .u8 a0_3) := (blk_cell BK136.out 3).trans rfl; have hcz19_4 : w17.cell? ⟨gb136, 4, none⟩ = some (.int .i64 a0_4) := (blk_cell BK136.out 4).trans rfl; have hcz19_5 : w17.cell? ⟨gb136, 5, none⟩ = some (.int .i64 a0_5) := (blk_cell BK136.out 5).trans rfl; have hcz19_6 : w17.cell? ⟨gb136, 6, none⟩ = some (.int .i64 a0_6) := (blk_cell BK136.out 6).trans rfl; have hfz19_0 := blk_frozen BK136.out 0; have hfz19_1 := blk_frozen BK136.out 1; have hfz19_2 := blk_frozen BK136.out 2; have hfz19_3 := blk_frozen BK136.out 3; have hfz19_4 := blk_frozen BK136.out 4; have hfz19_5 := blk_frozen BK136.out 5; have hfz19_6 := blk_frozen BK136.out 6; have hcz20_0 : w17.cell? ⟨gb137, 0, none⟩ = some (.int .i64 a1_0) := (blk_cell BK137.out 0).trans rfl; have hcz20_1 : w17.cell? ⟨gb137, 1, none⟩ = some (.int .i64 a1_1) := (blk_cell BK137.out 1).trans rfl; have hfz20_0 := blk_frozen BK137.out 0; have hfz20_1 := blk_frozen BK137.out 1))
      repeat (go_quiet ((((with_reducible refine gate_dst (N := 2) rfl ?_); refine box_event ?hg (N := 2) ?hd (cs := #[.int .u8 a0_0, .int .i64 a0_1, .int .i64 a0_2, .int .u8 a0_3, .int .i64 a0_4, .int .i64 a0_5, .int .i64 a0_6]) (t := 56) ?hr ?_; (case hd => rfl); (case hg => rfl); (case hr => (go_simp; rfl)); intro gb136 hg w16 hbox hb; have BK136 := Aside0.mk hbox; have GW136 := Aside0.mk ((by rw [hg]; exact (below_size (by skip)) : w.heap.size ≤ gb136)); have GE136 := Aside0.mk ((by rw [hg]; exact (below_size (by skip)) : w.heap.size ≤ gb136)); replace HB := Aside0.mk (below_step (by skip) hb); clear hb hbox hg))); try go_wp2_with ((((with_reducible refine gate_dst (N := 2) rfl ?_); refine box_event ?hg (N := 2) ?hd (cs := #[.int .u8 a0_0, .int .i64 a0_1, .int .i64 a0_2, .int .u8 a0_3, .int .i64 a0_4, .int .i64 a0_5, .int .i64 a0_6]) (t := 56) ?hr ?_; (case hd => rfl); (case hg => rfl); (case hr => (go_simp; rfl)); intro gb136 hg w16 hbox hb; have BK136 := Aside0.mk hbox; have GW136 := Aside0.mk ((by rw [hg]; exact (below_size (by skip)) : w.heap.size ≤ gb136)); have GE136 := Aside0.mk ((by rw [hg]; exact (below_size (by skip)) : w.heap.size ≤ gb136)); replace HB := Aside0.mk (below_step (by skip) hb); clear hb hbox hg))))
      go_ret2
      exact ⟨by (rfl), by repeat (with_reducible first | exact HB.out | apply pw_below_drewN | refine below_set ?_ GE137.out)⟩
    · rw [if_neg c15] at H
      have c15b0 : decide (0 < a0_2) = false := decide_eq_false c15
      clear c15
      simp only [Option.some.injEq, Prod.mk.injEq] at H
      obtain ⟨rfl, rfl⟩ := H
      go_enter Try.func19, Try.ntmps19
      go_wp2_with (first | ((with_reducible refine gate_dst (N := 2) rfl ?_); refine box_event ?hg (N := 2) ?hd (cs := #[.int .u8 a0_0, .int .i64 a0_1, .int .i64 a0_2, .int .u8 a0_3, .int .i64 a0_4, .int .i64 a0_5, .int .i64 a0_6]) (t := 56) ?hr ?_; (case hd => rfl); (case hg => rfl); (case hr => (go_simp; done)); intro gb136 hg w21 hbox hb; have BK136 := Aside0.mk hbox; have GW136 := Aside0.mk ((by rw [hg]; exact (below_size HB.out) : w.heap.size ≤ gb136)); have GE136 := Aside0.mk ((by rw [hg]; exact (below_size HB.out) : w.heap.size ≤ gb136)); replace HB := Aside0.mk (below_step HB.out hb); clear hb hbox hg) | ((with_reducible refine gate_dst (N := 3) rfl ?_); refine box_event ?hg (N := 3) ?hd (cs := #[.int .i64 a1_0, .int .i64 a1_1]) (t := 33) ?hr ?_; (case hd => rfl); (case hg => rfl); (case hr => (go_simp; done)); intro gb137 hg w22 hbox hb; have BK137 := Aside0.mk hbox; have GW137 := Aside0.mk ((by rw [hg]; exact (below_size HB.out) : w.heap.size ≤ gb137)); have GE137 := Aside0.mk ((by rw [hg]; exact (below_size HB.out) : w.heap.size ≤ gb137)); have NB136_137 := Aside0.mk ((by rw [hg]; exact Nat.ne_of_lt (blk_lt BK136.out) : gb136 ≠ gb137)); have NB137_136 := Aside0.mk ((by rw [hg]; exact Nat.ne_of_gt (blk_lt BK136.out) : gb137 ≠ gb136)); replace BK136 := Aside0.mk (blk_below BK136.out hb); replace HB := Aside0.mk (below_step HB.out hb); clear hb hbox hg; have hnb23 := NB136_137.out; have hnc23 := NB137_136.out; have hcz24_0 : w22.cell? ⟨gb136, 0, none⟩ = some (.int .u8 a0_0) := (blk_cell BK136.out 0).trans rfl; have hcz24_1 : w22.cell? ⟨gb136, 1, none⟩ = some (.int .i64 a0_1) := (blk_cell BK136.out 1).trans rfl; have hcz24_2 : w22.cell? ⟨gb136, 2, none⟩ = some (.int .i64 a0_2) := (blk_cell BK136.out 2).trans rfl; have hcz24_3 : w22.cell? ⟨gb136, 3, none⟩ = some (.int .u8 a0_3) := (blk_cell BK136.out 3).trans rfl; have hcz24_4 : w22.cell? ⟨gb136, 4, none⟩ = some (.int .i64 a0_4) := (blk_cell BK136.out 4).trans rfl; have hcz24_5 : w22.cell? ⟨gb136, 5, none⟩ = some (.int .i64 a0_5) := (blk_cell BK136.out 5).trans rfl; have hcz24_6 : w22.cell? ⟨gb136, 6, none⟩ = some (.int .i64 a0_6) := (blk_cell BK136.out 6).trans rfl; have hfz24_0 := blk_frozen BK136.out 0; have hfz24_1 := blk_frozen BK136.out 1; have hfz24_2 := blk_frozen BK136.out 2; have hfz24_3 := blk_frozen BK136.out 3; have hfz24_4 := blk_frozen BK136.out 4; have hfz24_5 := blk_frozen BK136.out 5; have hfz24_6 := blk_frozen BK136.out 6; have hcz25_0 : w22.cell? ⟨gb137, 0, none⟩ = some (.int .i64 a1_0) := (blk_cell BK137.out 0).trans rfl; have hcz25_1 : w22.cell? ⟨gb137, 1, none⟩ = some (.int .i64 a1_1) := (blk_cell BK137.out 1).trans rfl; have hfz25_0 := blk_frozen BK137.out 0; have hfz25_1 := blk_frozen BK137.out 1))
      repeat (go_quiet ((((with_reducible refine gate_dst (N := 2) rfl ?_); refine box_event ?hg (N := 2) ?hd (cs := #[.int .u8 a0_0, .int .i64 a0_1, .int .i64 a0_2, .int .u8 a0_3, .int .i64 a0_4, .int .i64 a0_5, .int .i64 a0_6]) (t := 56) ?hr ?_; (case hd => rfl); (case hg => rfl); (case hr => (go_simp; rfl)); intro gb136 hg w21 hbox hb; have BK136 := Aside0.mk hbox; have GW136 := Aside0.mk ((by rw [hg]; exact (below_size (by skip)) : w.heap.size ≤ gb136)); have GE136 := Aside0.mk ((by rw [hg]; exact (below_size (by skip)) : w.heap.size ≤ gb136)); replace HB := Aside0.mk (below_step (by skip) hb); clear hb hbox hg))); try go_wp2_with ((((with_reducible refine gate_dst (N := 2) rfl ?_); refine box_event ?hg (N := 2) ?hd (cs := #[.int .u8 a0_0, .int .i64 a0_1, .int .i64 a0_2, .int .u8 a0_3, .int .i64 a0_4, .int .i64 a0_5, .int .i64 a0_6]) (t := 56) ?hr ?_; (case hd => rfl); (case hg => rfl); (case hr => (go_simp; rfl)); intro gb136 hg w21 hbox hb; have BK136 := Aside0.mk hbox; have GW136 := Aside0.mk ((by rw [hg]; exact (below_size (by skip)) : w.heap.size ≤ gb136)); have GE136 := Aside0.mk ((by rw [hg]; exact (below_size (by skip)) : w.heap.size ≤ gb136)); replace HB := Aside0.mk (below_step (by skip) hb); clear hb hbox hg))))
      go_ret2
      exact ⟨by (rfl), by repeat (with_reducible first | exact HB.out | apply pw_below_drewN)⟩

/-! ### topo_turned: function 17 -/
def topo_turned.f (a0_0 : Int) (a0_1 : Int) (a0_2 : Int) (a0_3 : Int) (a0_4 : Int) : Option (Int) := if a0_3 = 2 then (some a0_2) else (some a0_1)
set_option maxHeartbeats 8000000 in
set_option maxRecDepth 100000 in
theorem topo_turned.calls (a0_0 : Int) (a0_1 : Int) (a0_2 : Int) (a0_3 : Int) (a0_4 : Int) (r : Int) (w : World) (h : topo_turned.f a0_0 a0_1 a0_2 a0_3 a0_4 = some r) :
    Calls Try.prog 17 #[.agg #[.int .u8 a0_0, .int .i64 a0_1, .int .i64 a0_2, .int .u8 a0_3, .int .i64 a0_4]] w fun e w' => e = .returned (.int .i64 r) ∧ Below w.heap.size w w' := by
  have hu23 := Try.underlying23
  have HB := Aside0.mk (Below.refl w.heap.size w)
  have H : (if a0_3 = 2 then (some a0_2) else (some a0_1)) = some r := h
  clear h
  by_cases c2 : a0_3 = 2
  · rw [if_pos c2] at H
    have c2b0 : (a0_3 == 2) = true := beq_iff_eq.mpr c2
    have c2b1 : (a0_3 != 2) = false := bne_eq_false_iff_eq.mpr c2
    clear c2
    obtain rfl := Option.some.inj H
    go_enter Try.func17, Try.ntmps17
    go_wp2_with ((((with_reducible refine gate_dst (N := 1) rfl ?_); refine box_event ?hg (N := 1) ?hd (cs := #[.int .u8 a0_0, .int .i64 a0_1, .int .i64 a0_2, .int .u8 a0_3, .int .i64 a0_4]) (t := 23) ?hr ?_; (case hd => rfl); (case hg => rfl); (case hr => (go_simp; done)); intro gb138 hg w3 hbox hb; have BK138 := Aside0.mk hbox; have GW138 := Aside0.mk ((by rw [hg]; exact (below_size HB.out) : w.heap.size ≤ gb138)); have GE138 := Aside0.mk ((by rw [hg]; exact (below_size HB.out) : w.heap.size ≤ gb138)); replace HB := Aside0.mk (below_step HB.out hb); clear hb hbox hg; have hcz4_0 : w3.cell? ⟨gb138, 0, none⟩ = some (.int .u8 a0_0) := (blk_cell BK138.out 0).trans rfl; have hcz4_1 : w3.cell? ⟨gb138, 1, none⟩ = some (.int .i64 a0_1) := (blk_cell BK138.out 1).trans rfl; have hcz4_2 : w3.cell? ⟨gb138, 2, none⟩ = some (.int .i64 a0_2) := (blk_cell BK138.out 2).trans rfl; have hcz4_3 : w3.cell? ⟨gb138, 3, none⟩ = some (.int .u8 a0_3) := (blk_cell BK138.out 3).trans rfl; have hcz4_4 : w3.cell? ⟨gb138, 4, none⟩ = some (.int .i64 a0_4) := (blk_cell BK138.out 4).trans rfl; have hfz4_0 := blk_frozen BK138.out 0; have hfz4_1 := blk_frozen BK138.out 1; have hfz4_2 := blk_frozen BK138.out 2; have hfz4_3 := blk_frozen BK138.out 3; have hfz4_4 := blk_frozen BK138.out 4)))
    go_ret
    exact ⟨by (rfl), by repeat (with_reducible (exact HB.out))⟩
  · rw [if_neg c2] at H
    have c2b0 : (a0_3 == 2) = false := beq_eq_false_iff_ne.mpr c2
    have c2b1 : (a0_3 != 2) = true := bne_iff_ne.mpr c2
    obtain rfl := Option.some.inj H
    go_enter Try.func17, Try.ntmps17
    go_wp2_with ((((with_reducible refine gate_dst (N := 1) rfl ?_); refine box_event ?hg (N := 1) ?hd (cs := #[.int .u8 a0_0, .int .i64 a0_1, .int .i64 a0_2, .int .u8 a0_3, .int .i64 a0_4]) (t := 23) ?hr ?_; (case hd => rfl); (case hg => rfl); (case hr => (go_simp; done)); intro gb138 hg w5 hbox hb; have BK138 := Aside0.mk hbox; have GW138 := Aside0.mk ((by rw [hg]; exact (below_size HB.out) : w.heap.size ≤ gb138)); have GE138 := Aside0.mk ((by rw [hg]; exact (below_size HB.out) : w.heap.size ≤ gb138)); replace HB := Aside0.mk (below_step HB.out hb); clear hb hbox hg; have hcz6_0 : w5.cell? ⟨gb138, 0, none⟩ = some (.int .u8 a0_0) := (blk_cell BK138.out 0).trans rfl; have hcz6_1 : w5.cell? ⟨gb138, 1, none⟩ = some (.int .i64 a0_1) := (blk_cell BK138.out 1).trans rfl; have hcz6_2 : w5.cell? ⟨gb138, 2, none⟩ = some (.int .i64 a0_2) := (blk_cell BK138.out 2).trans rfl; have hcz6_3 : w5.cell? ⟨gb138, 3, none⟩ = some (.int .u8 a0_3) := (blk_cell BK138.out 3).trans rfl; have hcz6_4 : w5.cell? ⟨gb138, 4, none⟩ = some (.int .i64 a0_4) := (blk_cell BK138.out 4).trans rfl; have hfz6_0 := blk_frozen BK138.out 0; have hfz6_1 := blk_frozen BK138.out 1; have hfz6_2 := blk_frozen BK138.out 2; have hfz6_3 := blk_frozen BK138.out 3; have hfz6_4 := blk_frozen BK138.out 4)))
    go_ret
    exact ⟨by (rfl), by repeat (with_reducible (exact HB.out))⟩

end Go.Proofs.Ytfgoplgdhnjkdaa.Be
