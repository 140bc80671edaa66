/- The machine's side of Go functions of this seat: for each a Lean function and a proof that the call comes to what it says. Written by a program of this session (wip/xp) for this claim. -/
import Derived.Test.YtfgoplgdhnjkdaaBe0
import Derived.Test.YtfgoplgdhnjkdaaBe3
namespace Go.Proofs.Ytfgoplgdhnjkdaa.Be
open Go.RowKit Go.Proofs.YtfgoplgdhnjkdaaW.PrintWords Go.Proofs.YtfgoplgdhnjkdaaW.PrintLast Go.Proofs.YtfgoplgdhnjkdaaW.PrintMore
attribute [local go_sem] max2_int min2_int max_two min_two max_three min_three max_four min_four   -- for this text's walks alone
open Go.Proofs.YtfgoplgdhnjkdaaW.XWords
attribute [local go_sem high] binOp_fEq binOp_fNe binOp_fLt binOp_fLe binOp_fGt binOp_fGe binOp_cEq binOp_cNe unOp_fNeg unOp_cNeg equalIn_f64 equalIn_c128
attribute [local go_sem] run_real run_imag run_complex run_store_f64 run_store_c128 run_store_fn
set_option linter.unusedVariables false
set_option linter.unusedSimpArgs false

/-! ### topo_Check: function 6 -/
mutual
def topo_Check.j0 : Nat → Bool → Int → Int → Int → Int → Int → Option (Int)
  | 0, _, _, _, _, _, _ => none
  | k + 1, x12, x140000, x140001, x140002, x140003, x140004 => if x12 = true then (some 40) else (if x140001 < 0 then (topo_Check.j1 k true x140000 x140001 x140002 x140003 x140004) else (if x140001 > 65536 then (topo_Check.j1 k true x140000 x140001 x140002 x140003 x140004) else (if x140002 < 0 then (topo_Check.j1 k true x140000 x140001 x140002 x140003 x140004) else (topo_Check.j1 k (decide (x140002 > 65536)) x140000 x140001 x140002 x140003 x140004))))
def topo_Check.j1 : Nat → Bool → Int → Int → Int → Int → Int → Option (Int)
  | 0, _, _, _, _, _, _ => none
  | k + 1, x30, x140000, x140001, x140002, x140003, x140004 => if x30 = true then (some 41) else (if x140000 = 5 then (if x140001 = x140002 then (if x140001 = 0 then (some 42) else (if x140002 = 0 then (some 42) else (topo_Check.j2 k false x140000 x140001 x140002 x140003 x140004))) else (some 41)) else (if x140000 = 4 then (if x140001 = 0 then (some 42) else (if x140002 = 0 then (some 42) else (topo_Check.j2 k false x140000 x140001 x140002 x140003 x140004))) else (if x140000 = 3 then (if x140001 = 0 then (some 42) else (if x140002 = 0 then (some 42) else (topo_Check.j2 k true x140000 x140001 x140002 x140003 x140004))) else (if x140000 = 1 then (topo_Check.j2 k false x140000 x140001 x140002 x140003 x140004) else (topo_Check.j2 k true x140000 x140001 x140002 x140003 x140004)))))
def topo_Check.j2 : Nat → Bool → Int → Int → Int → Int → Int → Option (Int)
  | 0, _, _, _, _, _, _ => none
  | k + 1, x3, x140000, x140001, x140002, x140003, x140004 => if x140003 > 2 then (topo_Check.j3 k (decide (x140003 > 2)) x140000 x140001 x140002 x140003 x140004) else (if x3 = true then (if x140000 = 3 then (topo_Check.j3 k (x140003 == 0) x140000 x140001 x140002 x140003 x140004) else (topo_Check.j3 k false x140000 x140001 x140002 x140003 x140004)) else (if x140003 = 0 then (if x140000 = 3 then (topo_Check.j3 k (x140003 == 0) x140000 x140001 x140002 x140003 x140004) else (topo_Check.j3 k false x140000 x140001 x140002 x140003 x140004)) else (topo_Check.j3 k (x140003 != 0) x140000 x140001 x140002 x140003 x140004)))
def topo_Check.j3 : Nat → Bool → Int → Int → Int → Int → Int → Option (Int)
  | 0, _, _, _, _, _, _ => none
  | k + 1, x54, x140000, x140001, x140002, x140003, x140004 => if x54 = true then (some 44) else (if x140003 = 0 then (topo_Check.j4 k (x140004 != 0) x140000 x140001 x140002 x140003 x140004) else (topo_Check.j4 k false x140000 x140001 x140002 x140003 x140004))
def topo_Check.j4 : Nat → Bool → Int → Int → Int → Int → Int → Option (Int)
  | 0, _, _, _, _, _, _ => none
  | k + 1, x73, x140000, x140001, x140002, x140003, x140004 => if x73 = true then (some 43) else (if x140003 = 0 then (some 0) else ((topo_turned.f x140000 x140001 x140002 x140003 x140004).bind fun t140 => (if x140004 ≤ (wrap64 (-t140)) then (some 43) else (if x140004 ≥ t140 then (some 43) else (if x140000 = 2 then (if x140004 = 0 then (some 43) else (if x140001 = 0 then (some 43) else (if x140002 = 0 then (some 43) else (some 0)))) else (some 0))))))
end
def topo_Check.f (k : Nat) (a0_0 : Int) (a0_1 : Int) (a0_2 : Int) (a0_3 : Int) (a0_4 : Int) : Option (Int) := if a0_0 < 1 then (topo_Check.j0 k true a0_0 a0_1 a0_2 a0_3 a0_4) else (topo_Check.j0 k (decide (a0_0 > 5)) a0_0 a0_1 a0_2 a0_3 a0_4)
theorem topo_Check.mono_l : ∀ k, (∀ y0 y1 y2 y3 y4 y5, LeO (topo_Check.j0 k y0 y1 y2 y3 y4 y5) (topo_Check.j0 (k + 1) y0 y1 y2 y3 y4 y5)) ∧ (∀ y0 y1 y2 y3 y4 y5, LeO (topo_Check.j1 k y0 y1 y2 y3 y4 y5) (topo_Check.j1 (k + 1) y0 y1 y2 y3 y4 y5)) ∧ (∀ y0 y1 y2 y3 y4 y5, LeO (topo_Check.j2 k y0 y1 y2 y3 y4 y5) (topo_Check.j2 (k + 1) y0 y1 y2 y3 y4 y5)) ∧ (∀ y0 y1 y2 y3 y4 y5, LeO (topo_Check.j3 k y0 y1 y2 y3 y4 y5) (topo_Check.j3 (k + 1) y0 y1 y2 y3 y4 y5)) ∧ (∀ y0 y1 y2 y3 y4 y5, LeO (topo_Check.j4 k y0 y1 y2 y3 y4 y5) (topo_Check.j4 (k + 1) y0 y1 y2 y3 y4 y5))
  | 0 => ⟨fun _ _ _ _ _ _ r h => by simp [topo_Check.j0] at h, fun _ _ _ _ _ _ r h => by simp [topo_Check.j1] at h, fun _ _ _ _ _ _ r h => by simp [topo_Check.j2] at h, fun _ _ _ _ _ _ r h => by simp [topo_Check.j3] at h, fun _ _ _ _ _ _ r h => by simp [topo_Check.j4] at h⟩
  | k + 1 => by
    obtain ⟨ih0, ih1, ih2, ih3, ih4⟩ := topo_Check.mono_l k
    refine ⟨?_, ?_, ?_, ?_, ?_⟩
    · intro y0 y1 y2 y3 y4 y5
      unfold topo_Check.j0
      repeat' first
      | (with_reducible exact ih1 _ _ _ _ _ _)
      | (with_reducible exact LeO.refl _)
      | (with_reducible refine LeO.ite ?_ ?_)
    · intro y0 y1 y2 y3 y4 y5
      unfold topo_Check.j1
      repeat' first
      | (with_reducible exact ih2 _ _ _ _ _ _)
      | (with_reducible exact LeO.refl _)
      | (with_reducible refine LeO.ite ?_ ?_)
    · intro y0 y1 y2 y3 y4 y5
      unfold topo_Check.j2
      repeat' first
      | (with_reducible exact ih3 _ _ _ _ _ _)
      | (with_reducible refine LeO.ite ?_ ?_)
    · intro y0 y1 y2 y3 y4 y5
      unfold topo_Check.j3
      repeat' first
      | (with_reducible exact ih4 _ _ _ _ _ _)
      | (with_reducible exact LeO.refl _)
      | (with_reducible refine LeO.ite ?_ ?_)
    · intro y0 y1 y2 y3 y4 y5
      unfold topo_Check.j4
      repeat' first
      | (with_reducible exact LeO.refl _)
theorem topo_Check.mono : ∀ a0 a1 a2 a3 a4 k, LeO (topo_Check.f k a0 a1 a2 a3 a4) (topo_Check.f (k + 1) a0 a1 a2 a3 a4) := by
  intro a0 a1 a2 a3 a4 k
  obtain ⟨ih0, ih1, ih2, ih3, ih4⟩ := topo_Check.mono_l k
  unfold topo_Check.f
  repeat' first
      | (with_reducible exact ih0 _ _ _ _ _ _)
      | (with_reducible refine LeO.ite ?_ ?_)
set_option maxHeartbeats 8000000 in
set_option maxRecDepth 100000 in
theorem topo_Check.calls (k : Nat) (a0_0 : Int) (a0_1 : Int) (a0_2 : Int) (a0_3 : Int) (a0_4 : Int) (r : Int) (w : World) (h : topo_Check.f k a0_0 a0_1 a0_2 a0_3 a0_4 = some r) :
    Calls Try.prog 6 #[.agg #[.int .u8 a0_0, .int .i64 a0_1, .int .i64 a0_2, .int .u8 a0_3, .int .i64 a0_4]] w fun e w' => e = .returned (.int .i64 r) ∧ Below w.heap.size w w' := by
  have hu23 := Try.underlying23
  have HB := Aside0.mk (Below.refl w.heap.size w)
  have H : (if a0_0 < 1 then (topo_Check.j0 k true a0_0 a0_1 a0_2 a0_3 a0_4) else (topo_Check.j0 k (decide (a0_0 > 5)) a0_0 a0_1 a0_2 a0_3 a0_4)) = some r := h
  clear h
  have HC2 := Aside0.mk H
  clear H
  go_enter Try.func6, Try.ntmps6
  go_upto_region 1 with ((((with_reducible refine gate_dst (N := 1) rfl ?_); refine box_event ?hg (N := 1) ?hd (cs := #[.int .u8 a0_0, .int .i64 a0_1, .int .i64 a0_2, .int .u8 a0_3, .int .i64 a0_4]) (t := 23) ?hr ?_; (case hd => rfl); (case hg => rfl); (case hr => (go_simp; done)); intro gb139 hg w3 hbox hb; have BK139 := Aside0.mk hbox; have GW139 := Aside0.mk ((by rw [hg]; exact (below_size HB.out) : w.heap.size ≤ gb139)); have GE139 := Aside0.mk ((by rw [hg]; exact (below_size HB.out) : w.heap.size ≤ gb139)); replace HB := Aside0.mk (below_step HB.out hb); clear hb hbox hg)))
  go_cut [12] (fun v12 wc => ∃ (kq : Nat) (x12_1 : Bool), v12 = .bool x12_1 ∧ Aside0 (topo_Check.j0 kq x12_1 a0_0 a0_1 a0_2 a0_3 a0_4 = some r) ∧ Aside0 (kq ≤ k) ∧ Aside0 (wc.heap[gb139]? = some (.cells #[.int .u8 a0_0, .int .i64 a0_1, .int .i64 a0_2, .int .u8 a0_3, .int .i64 a0_4] 23 (0, 0))) ∧ Aside0 (Below w.heap.size w wc))
  case first =>
    have H := HC2.out
    clear HC2
    by_cases c4 : a0_0 < 1
    · rw [if_pos c4] at H
      have c4b0 : decide (a0_0 < 1) = true := decide_eq_true c4
      clear c4
      (skip)
      have H' := Aside0.mk H
      clear H
      have hcz5_0 : w3.cell? ⟨gb139, 0, none⟩ = some (.int .u8 a0_0) := (blk_cell BK139.out 0).trans rfl
      have hcz5_1 : w3.cell? ⟨gb139, 1, none⟩ = some (.int .i64 a0_1) := (blk_cell BK139.out 1).trans rfl
      have hcz5_2 : w3.cell? ⟨gb139, 2, none⟩ = some (.int .i64 a0_2) := (blk_cell BK139.out 2).trans rfl
      have hcz5_3 : w3.cell? ⟨gb139, 3, none⟩ = some (.int .u8 a0_3) := (blk_cell BK139.out 3).trans rfl
      have hcz5_4 : w3.cell? ⟨gb139, 4, none⟩ = some (.int .i64 a0_4) := (blk_cell BK139.out 4).trans rfl
      have hfz5_0 := blk_frozen BK139.out 0
      have hfz5_1 := blk_frozen BK139.out 1
      have hfz5_2 := blk_frozen BK139.out 2
      have hfz5_3 := blk_frozen BK139.out 3
      have hfz5_4 := blk_frozen BK139.out 4
      go_wp2
      go_meet
      case rel => exact ⟨_, (true), (by (rfl)), H', ⟨by (omega)⟩, ⟨by (with_reducible skip); exact BK139.out⟩, ⟨by repeat (with_reducible (exact HB.out))⟩⟩
    · rw [if_neg c4] at H
      have c4b0 : decide (a0_0 < 1) = false := decide_eq_false c4
      clear c4
      (skip)
      have H' := Aside0.mk H
      clear H
      have hcz6_0 : w3.cell? ⟨gb139, 0, none⟩ = some (.int .u8 a0_0) := (blk_cell BK139.out 0).trans rfl
      have hcz6_1 : w3.cell? ⟨gb139, 1, none⟩ = some (.int .i64 a0_1) := (blk_cell BK139.out 1).trans rfl
      have hcz6_2 : w3.cell? ⟨gb139, 2, none⟩ = some (.int .i64 a0_2) := (blk_cell BK139.out 2).trans rfl
      have hcz6_3 : w3.cell? ⟨gb139, 3, none⟩ = some (.int .u8 a0_3) := (blk_cell BK139.out 3).trans rfl
      have hcz6_4 : w3.cell? ⟨gb139, 4, none⟩ = some (.int .i64 a0_4) := (blk_cell BK139.out 4).trans rfl
      have hfz6_0 := blk_frozen BK139.out 0
      have hfz6_1 := blk_frozen BK139.out 1
      have hfz6_2 := blk_frozen BK139.out 2
      have hfz6_3 := blk_frozen BK139.out 3
      have hfz6_4 := blk_frozen BK139.out 4
      go_wp2
      go_meet
      case rel => exact ⟨_, (decide (a0_0 > 5)), (by (rfl)), H', ⟨by (omega)⟩, ⟨by (with_reducible skip); exact BK139.out⟩, ⟨by repeat (with_reducible (exact HB.out))⟩⟩
  case rest =>
    clear HC2
    obtain ⟨kq, x12_1, rfl, HA, HJ1, BK139, HB⟩ := hcut
    cases kq with
    | zero => exact absurd HA.out (by simp [topo_Check.j0])
    | succ kj1 =>
      have H := HA.out
      clear HA
      simp only [topo_Check.j0] at H
      by_cases c7 : x12_1 = true
      · subst c7
        have H1 : (some 40) = some r := by rw [if_pos rfl] at H; exact H
        clear H
        have H := H1
        clear H1
        obtain rfl := Option.some.inj H
        go_wp2
        go_ret
        exact ⟨by (rfl), by repeat (with_reducible (exact HB.out))⟩
      · replace c7 := Bool.eq_false_iff.mpr c7
        subst c7
        have H1 : (if a0_1 < 0 then (topo_Check.j1 kj1 true a0_0 a0_1 a0_2 a0_3 a0_4) else (if a0_1 > 65536 then (topo_Check.j1 kj1 true a0_0 a0_1 a0_2 a0_3 a0_4) else (if a0_2 < 0 then (topo_Check.j1 kj1 true a0_0 a0_1 a0_2 a0_3 a0_4) else (topo_Check.j1 kj1 (decide (a0_2 > 65536)) a0_0 a0_1 a0_2 a0_3 a0_4)))) = some r := by rw [if_neg (show ¬ (false = true) by decide)] at H; exact H
        clear H
        have H := H1
        clear H1
        have HC8 := Aside0.mk H
        clear H
        go_upto_region 3 with (fail)
        go_cut [30] (fun v30 wc => ∃ (kq : Nat) (x30_7 : Bool), v30 = .bool x30_7 ∧ Aside0 (topo_Check.j1 kq x30_7 a0_0 a0_1 a0_2 a0_3 a0_4 = some r) ∧ Aside0 (kq ≤ kj1) ∧ Aside0 (wc.heap[gb139]? = some (.cells #[.int .u8 a0_0, .int .i64 a0_1, .int .i64 a0_2, .int .u8 a0_3, .int .i64 a0_4] 23 (0, 0))) ∧ Aside0 (Below w.heap.size w wc))
        case first =>
          have H := HC8.out
          clear HC8
          by_cases c9 : a0_1 < 0
          · rw [if_pos c9] at H
            have c9b0 : decide (a0_1 < 0) = true := decide_eq_true c9
            clear c9
            (skip)
            have H' := Aside0.mk H
            clear H
            have hcz10_0 : wc.cell? ⟨gb139, 0, none⟩ = some (.int .u8 a0_0) := (blk_cell BK139.out 0).trans rfl
            have hcz10_1 : wc.cell? ⟨gb139, 1, none⟩ = some (.int .i64 a0_1) := (blk_cell BK139.out 1).trans rfl
            have hcz10_2 : wc.cell? ⟨gb139, 2, none⟩ = some (.int .i64 a0_2) := (blk_cell BK139.out 2).trans rfl
            have hcz10_3 : wc.cell? ⟨gb139, 3, none⟩ = some (.int .u8 a0_3) := (blk_cell BK139.out 3).trans rfl
            have hcz10_4 : wc.cell? ⟨gb139, 4, none⟩ = some (.int .i64 a0_4) := (blk_cell BK139.out 4).trans rfl
            have hfz10_0 := blk_frozen BK139.out 0
            have hfz10_1 := blk_frozen BK139.out 1
            have hfz10_2 := blk_frozen BK139.out 2
            have hfz10_3 := blk_frozen BK139.out 3
            have hfz10_4 := blk_frozen BK139.out 4
            go_wp2
            go_meet
            case rel => exact ⟨_, (true), (by (rfl)), H', ⟨by have := HJ1.out; (omega)⟩, ⟨by (with_reducible skip); exact BK139.out⟩, ⟨by repeat (with_reducible (exact HB.out))⟩⟩
          · rw [if_neg c9] at H
            have c9b0 : decide (a0_1 < 0) = false := decide_eq_false c9
            clear c9
            (skip)
            by_cases c11 : a0_1 > 65536
            · rw [if_pos c11] at H
              have c11b0 : decide (65536 < a0_1) = true := decide_eq_true c11
              clear c11
              have H' := Aside0.mk H
              clear H
              have hcz12_0 : wc.cell? ⟨gb139, 0, none⟩ = some (.int .u8 a0_0) := (blk_cell BK139.out 0).trans rfl
              have hcz12_1 : wc.cell? ⟨gb139, 1, none⟩ = some (.int .i64 a0_1) := (blk_cell BK139.out 1).trans rfl
              have hcz12_2 : wc.cell? ⟨gb139, 2, none⟩ = some (.int .i64 a0_2) := (blk_cell BK139.out 2).trans rfl
              have hcz12_3 : wc.cell? ⟨gb139, 3, none⟩ = some (.int .u8 a0_3) := (blk_cell BK139.out 3).trans rfl
              have hcz12_4 : wc.cell? ⟨gb139, 4, none⟩ = some (.int .i64 a0_4) := (blk_cell BK139.out 4).trans rfl
              have hfz12_0 := blk_frozen BK139.out 0
              have hfz12_1 := blk_frozen BK139.out 1
              have hfz12_2 := blk_frozen BK139.out 2
              have hfz12_3 := blk_frozen BK139.out 3
              have hfz12_4 := blk_frozen BK139.out 4
              go_wp2
              go_meet
              case rel => exact ⟨_, (true), (by (rfl)), H', ⟨by have := HJ1.out; (omega)⟩, ⟨by (with_reducible skip); exact BK139.out⟩, ⟨by repeat (with_reducible (exact HB.out))⟩⟩
            · rw [if_neg c11] at H
              have c11b0 : decide (65536 < a0_1) = false := decide_eq_false c11
              clear c11
              by_cases c13 : a0_2 < 0
              · rw [if_pos c13] at H
                have c13b0 : decide (a0_2 < 0) = true := decide_eq_true c13
                clear c13
                have H' := Aside0.mk H
                clear H
                have hcz14_0 : wc.cell? ⟨gb139, 0, none⟩ = some (.int .u8 a0_0) := (blk_cell BK139.out 0).trans rfl
                have hcz14_1 : wc.cell? ⟨gb139, 1, none⟩ = some (.int .i64 a0_1) := (blk_cell BK139.out 1).trans rfl
                have hcz14_2 : wc.cell? ⟨gb139, 2, none⟩ = some (.int .i64 a0_2) := (blk_cell BK139.out 2).trans rfl
                have hcz14_3 : wc.cell? ⟨gb139, 3, none⟩ = some (.int .u8 a0_3) := (blk_cell BK139.out 3).trans rfl
                have hcz14_4 : wc.cell? ⟨gb139, 4, none⟩ = some (.int .i64 a0_4) := (blk_cell BK139.out 4).trans rfl
                have hfz14_0 := blk_frozen BK139.out 0
                have hfz14_1 := blk_frozen BK139.out 1
                have hfz14_2 := blk_frozen BK139.out 2
                have hfz14_3 := blk_frozen BK139.out 3
                have hfz14_4 := blk_frozen BK139.out 4
                go_wp2
                go_meet
                case rel => exact ⟨_, (true), (by (rfl)), H', ⟨by have := HJ1.out; (omega)⟩, ⟨by (with_reducible skip); exact BK139.out⟩, ⟨by repeat (with_reducible (exact HB.out))⟩⟩
              · rw [if_neg c13] at H
                have c13b0 : decide (a0_2 < 0) = false := decide_eq_false c13
                clear c13
                have H' := Aside0.mk H
                clear H
                have hcz15_0 : wc.cell? ⟨gb139, 0, none⟩ = some (.int .u8 a0_0) := (blk_cell BK139.out 0).trans rfl
                have hcz15_1 : wc.cell? ⟨gb139, 1, none⟩ = some (.int .i64 a0_1) := (blk_cell BK139.out 1).trans rfl
                have hcz15_2 : wc.cell? ⟨gb139, 2, none⟩ = some (.int .i64 a0_2) := (blk_cell BK139.out 2).trans rfl
                have hcz15_3 : wc.cell? ⟨gb139, 3, none⟩ = some (.int .u8 a0_3) := (blk_cell BK139.out 3).trans rfl
                have hcz15_4 : wc.cell? ⟨gb139, 4, none⟩ = some (.int .i64 a0_4) := (blk_cell BK139.out 4).trans rfl
                have hfz15_0 := blk_frozen BK139.out 0
                have hfz15_1 := blk_frozen BK139.out 1
                have hfz15_2 := blk_frozen BK139.out 2
                have hfz15_3 := blk_frozen BK139.out 3
                have hfz15_4 := blk_frozen BK139.out 4
                go_wp2
                go_meet
                case rel => exact ⟨_, (decide (a0_2 > 65536)), (by (rfl)), H', ⟨by have := HJ1.out; (omega)⟩, ⟨by (with_reducible skip); exact BK139.out⟩, ⟨by repeat (with_reducible (exact HB.out))⟩⟩
        case rest =>
          clear HC8
          obtain ⟨kq, x30_7, rfl, HA, HJ7, BK139, HB⟩ := hcut
          cases kq with
          | zero => exact absurd HA.out (by simp [topo_Check.j1])
          | succ kj7 =>
            have H := HA.out
            clear HA
            simp only [topo_Check.j1] at H
            by_cases c16 : x30_7 = true
            · subst c16
              have H1 : (some 41) = some r := by rw [if_pos rfl] at H; exact H
              clear H
              have H := H1
              clear H1
              obtain rfl := Option.some.inj H
              go_wp2
              go_ret
              exact ⟨by (rfl), by repeat (with_reducible (exact HB.out))⟩
            · replace c16 := Bool.eq_false_iff.mpr c16
              subst c16
              have H1 : (if a0_0 = 5 then (if a0_1 = a0_2 then (if a0_1 = 0 then (some 42) else (if a0_2 = 0 then (some 42) else (topo_Check.j2 kj7 false a0_0 a0_1 a0_2 a0_3 a0_4))) else (some 41)) else (if a0_0 = 4 then (if a0_1 = 0 then (some 42) else (if a0_2 = 0 then (some 42) else (topo_Check.j2 kj7 false a0_0 a0_1 a0_2 a0_3 a0_4))) else (if a0_0 = 3 then (if a0_1 = 0 then (some 42) else (if a0_2 = 0 then (some 42) else (topo_Check.j2 kj7 true a0_0 a0_1 a0_2 a0_3 a0_4))) else (if a0_0 = 1 then (topo_Check.j2 kj7 false a0_0 a0_1 a0_2 a0_3 a0_4) else (topo_Check.j2 kj7 true a0_0 a0_1 a0_2 a0_3 a0_4))))) = some r := by rw [if_neg (show ¬ (false = true) by decide)] at H; exact H
              clear H
              have H := H1
              clear H1
              have HC17 := Aside0.mk H
              clear H
              have hcz18_0 : wc.cell? ⟨gb139, 0, none⟩ = some (.int .u8 a0_0) := (blk_cell BK139.out 0).trans rfl
              have hcz18_1 : wc.cell? ⟨gb139, 1, none⟩ = some (.int .i64 a0_1) := (blk_cell BK139.out 1).trans rfl
              have hcz18_2 : wc.cell? ⟨gb139, 2, none⟩ = some (.int .i64 a0_2) := (blk_cell BK139.out 2).trans rfl
              have hcz18_3 : wc.cell? ⟨gb139, 3, none⟩ = some (.int .u8 a0_3) := (blk_cell BK139.out 3).trans rfl
              have hcz18_4 : wc.cell? ⟨gb139, 4, none⟩ = some (.int .i64 a0_4) := (blk_cell BK139.out 4).trans rfl
              have hfz18_0 := blk_frozen BK139.out 0
              have hfz18_1 := blk_frozen BK139.out 1
              have hfz18_2 := blk_frozen BK139.out 2
              have hfz18_3 := blk_frozen BK139.out 3
              have hfz18_4 := blk_frozen BK139.out 4
              go_upto_block 0 with (fail)
              go_cut [3] (fun v3 wc => ∃ (kq : Nat) (x3_16 : Bool), v3 = .bool x3_16 ∧ Aside0 (topo_Check.j2 kq x3_16 a0_0 a0_1 a0_2 a0_3 a0_4 = some r) ∧ Aside0 (kq ≤ kj7) ∧ Aside0 (wc.heap[gb139]? = some (.cells #[.int .u8 a0_0, .int .i64 a0_1, .int .i64 a0_2, .int .u8 a0_3, .int .i64 a0_4] 23 (0, 0))) ∧ Aside0 (Below w.heap.size w wc))
              case first =>
                have H := HC17.out
                clear HC17
                by_cases c19 : a0_0 = 5
                · rw [if_pos c19] at H
                  have c19b0 : (a0_0 == 5) = true := beq_iff_eq.mpr c19
                  have c19b1 : (a0_0 != 5) = false := bne_eq_false_iff_eq.mpr c19
                  clear c19
                  (skip)
                  by_cases c20 : a0_1 = a0_2
                  · rw [if_pos c20] at H
                    have c20b0 : (a0_1 == a0_2) = true := beq_iff_eq.mpr c20
                    have c20b1 : (a0_1 != a0_2) = false := bne_eq_false_iff_eq.mpr c20
                    clear c20
                    by_cases c21 : a0_1 = 0
                    · rw [if_pos c21] at H
                      have c21b0 : (a0_1 == 0) = true := beq_iff_eq.mpr c21
                      have c21b1 : (a0_1 != 0) = false := bne_eq_false_iff_eq.mpr c21
                      clear c21
                      obtain rfl := Option.some.inj H
                      have hcz22_0 : wc.cell? ⟨gb139, 0, none⟩ = some (.int .u8 a0_0) := (blk_cell BK139.out 0).trans rfl
                      have hcz22_1 : wc.cell? ⟨gb139, 1, none⟩ = some (.int .i64 a0_1) := (blk_cell BK139.out 1).trans rfl
                      have hcz22_2 : wc.cell? ⟨gb139, 2, none⟩ = some (.int .i64 a0_2) := (blk_cell BK139.out 2).trans rfl
                      have hcz22_3 : wc.cell? ⟨gb139, 3, none⟩ = some (.int .u8 a0_3) := (blk_cell BK139.out 3).trans rfl
                      have hcz22_4 : wc.cell? ⟨gb139, 4, none⟩ = some (.int .i64 a0_4) := (blk_cell BK139.out 4).trans rfl
                      have hfz22_0 := blk_frozen BK139.out 0
                      have hfz22_1 := blk_frozen BK139.out 1
                      have hfz22_2 := blk_frozen BK139.out 2
                      have hfz22_3 := blk_frozen BK139.out 3
                      have hfz22_4 := blk_frozen BK139.out 4
                      go_wp2
                      go_ret
                      exact ⟨by (rfl), by repeat (with_reducible (exact HB.out))⟩
                    · rw [if_neg c21] at H
                      have c21b0 : (a0_1 == 0) = false := beq_eq_false_iff_ne.mpr c21
                      have c21b1 : (a0_1 != 0) = true := bne_iff_ne.mpr c21
                      by_cases c23 : a0_2 = 0
                      · rw [if_pos c23] at H
                        have c23b0 : (a0_2 == 0) = true := beq_iff_eq.mpr c23
                        have c23b1 : (a0_2 != 0) = false := bne_eq_false_iff_eq.mpr c23
                        clear c23
                        obtain rfl := Option.some.inj H
                        have hcz24_0 : wc.cell? ⟨gb139, 0, none⟩ = some (.int .u8 a0_0) := (blk_cell BK139.out 0).trans rfl
                        have hcz24_1 : wc.cell? ⟨gb139, 1, none⟩ = some (.int .i64 a0_1) := (blk_cell BK139.out 1).trans rfl
                        have hcz24_2 : wc.cell? ⟨gb139, 2, none⟩ = some (.int .i64 a0_2) := (blk_cell BK139.out 2).trans rfl
                        have hcz24_3 : wc.cell? ⟨gb139, 3, none⟩ = some (.int .u8 a0_3) := (blk_cell BK139.out 3).trans rfl
                        have hcz24_4 : wc.cell? ⟨gb139, 4, none⟩ = some (.int .i64 a0_4) := (blk_cell BK139.out 4).trans rfl
                        have hfz24_0 := blk_frozen BK139.out 0
                        have hfz24_1 := blk_frozen BK139.out 1
                        have hfz24_2 := blk_frozen BK139.out 2
                        have hfz24_3 := blk_frozen BK139.out 3
                        have hfz24_4 := blk_frozen BK139.out 4
                        go_wp2
                        go_ret
                        exact ⟨by (rfl), by repeat (with_reducible (exact HB.out))⟩
                      · rw [if_neg c23] at H
                        have c23b0 : (a0_2 == 0) = false := beq_eq_false_iff_ne.mpr c23
                        have c23b1 : (a0_2 != 0) = true := bne_iff_ne.mpr c23
                        have H' := Aside0.mk H
                        clear H
                        have hcz25_0 : wc.cell? ⟨gb139, 0, none⟩ = some (.int .u8 a0_0) := (blk_cell BK139.out 0).trans rfl
                        have hcz25_1 : wc.cell? ⟨gb139, 1, none⟩ = some (.int .i64 a0_1) := (blk_cell BK139.out 1).trans rfl
                        have hcz25_2 : wc.cell? ⟨gb139, 2, none⟩ = some (.int .i64 a0_2) := (blk_cell BK139.out 2).trans rfl
                        have hcz25_3 : wc.cell? ⟨gb139, 3, none⟩ = some (.int .u8 a0_3) := (blk_cell BK139.out 3).trans rfl
                        have hcz25_4 : wc.cell? ⟨gb139, 4, none⟩ = some (.int .i64 a0_4) := (blk_cell BK139.out 4).trans rfl
                        have hfz25_0 := blk_frozen BK139.out 0
                        have hfz25_1 := blk_frozen BK139.out 1
                        have hfz25_2 := blk_frozen BK139.out 2
                        have hfz25_3 := blk_frozen BK139.out 3
                        have hfz25_4 := blk_frozen BK139.out 4
                        go_wp2
                        go_meet
                        case rel => exact ⟨_, (false), (by (rfl)), H', ⟨by have := HJ1.out; have := HJ7.out; (omega)⟩, ⟨by (with_reducible skip); exact BK139.out⟩, ⟨by repeat (with_reducible (exact HB.out))⟩⟩
                  · rw [if_neg c20] at H
                    have c20b0 : (a0_1 == a0_2) = false := beq_eq_false_iff_ne.mpr c20
                    have c20b1 : (a0_1 != a0_2) = true := bne_iff_ne.mpr c20
                    obtain rfl := Option.some.inj H
                    have hcz26_0 : wc.cell? ⟨gb139, 0, none⟩ = some (.int .u8 a0_0) := (blk_cell BK139.out 0).trans rfl
                    have hcz26_1 : wc.cell? ⟨gb139, 1, none⟩ = some (.int .i64 a0_1) := (blk_cell BK139.out 1).trans rfl
                    have hcz26_2 : wc.cell? ⟨gb139, 2, none⟩ = some (.int .i64 a0_2) := (blk_cell BK139.out 2).trans rfl
                    have hcz26_3 : wc.cell? ⟨gb139, 3, none⟩ = some (.int .u8 a0_3) := (blk_cell BK139.out 3).trans rfl
                    have hcz26_4 : wc.cell? ⟨gb139, 4, none⟩ = some (.int .i64 a0_4) := (blk_cell BK139.out 4).trans rfl
                    have hfz26_0 := blk_frozen BK139.out 0
                    have hfz26_1 := blk_frozen BK139.out 1
                    have hfz26_2 := blk_frozen BK139.out 2
                    have hfz26_3 := blk_frozen BK139.out 3
                    have hfz26_4 := blk_frozen BK139.out 4
                    go_wp2
                    go_ret
                    exact ⟨by (rfl), by repeat (with_reducible (exact HB.out))⟩
                · rw [if_neg c19] at H
                  have c19b0 : (a0_0 == 5) = false := beq_eq_false_iff_ne.mpr c19
                  have c19b1 : (a0_0 != 5) = true := bne_iff_ne.mpr c19
                  (skip)
                  by_cases c27 : a0_0 = 4
                  · rw [if_pos c27] at H
                    have c27b0 : (a0_0 == 4) = true := beq_iff_eq.mpr c27
                    have c27b1 : (a0_0 != 4) = false := bne_eq_false_iff_eq.mpr c27
                    clear c27
                    by_cases c28 : a0_1 = 0
                    · rw [if_pos c28] at H
                      have c28b0 : (a0_1 == 0) = true := beq_iff_eq.mpr c28
                      have c28b1 : (a0_1 != 0) = false := bne_eq_false_iff_eq.mpr c28
                      clear c28
                      obtain rfl := Option.some.inj H
                      have hcz29_0 : wc.cell? ⟨gb139, 0, none⟩ = some (.int .u8 a0_0) := (blk_cell BK139.out 0).trans rfl
                      have hcz29_1 : wc.cell? ⟨gb139, 1, none⟩ = some (.int .i64 a0_1) := (blk_cell BK139.out 1).trans rfl
                      have hcz29_2 : wc.cell? ⟨gb139, 2, none⟩ = some (.int .i64 a0_2) := (blk_cell BK139.out 2).trans rfl
                      have hcz29_3 : wc.cell? ⟨gb139, 3, none⟩ = some (.int .u8 a0_3) := (blk_cell BK139.out 3).trans rfl
                      have hcz29_4 : wc.cell? ⟨gb139, 4, none⟩ = some (.int .i64 a0_4) := (blk_cell BK139.out 4).trans rfl
                      have hfz29_0 := blk_frozen BK139.out 0
                      have hfz29_1 := blk_frozen BK139.out 1
                      have hfz29_2 := blk_frozen BK139.out 2
                      have hfz29_3 := blk_frozen BK139.out 3
                      have hfz29_4 := blk_frozen BK139.out 4
                      go_wp2
                      go_ret
                      exact ⟨by (rfl), by repeat (with_reducible (exact HB.out))⟩
                    · rw [if_neg c28] at H
                      have c28b0 : (a0_1 == 0) = false := beq_eq_false_iff_ne.mpr c28
                      have c28b1 : (a0_1 != 0) = true := bne_iff_ne.mpr c28
                      by_cases c30 : a0_2 = 0
                      · rw [if_pos c30] at H
                        have c30b0 : (a0_2 == 0) = true := beq_iff_eq.mpr c30
                        have c30b1 : (a0_2 != 0) = false := bne_eq_false_iff_eq.mpr c30
                        clear c30
                        obtain rfl := Option.some.inj H
                        have hcz31_0 : wc.cell? ⟨gb139, 0, none⟩ = some (.int .u8 a0_0) := (blk_cell BK139.out 0).trans rfl
                        have hcz31_1 : wc.cell? ⟨gb139, 1, none⟩ = some (.int .i64 a0_1) := (blk_cell BK139.out 1).trans rfl
                        have hcz31_2 : wc.cell? ⟨gb139, 2, none⟩ = some (.int .i64 a0_2) := (blk_cell BK139.out 2).trans rfl
                        have hcz31_3 : wc.cell? ⟨gb139, 3, none⟩ = some (.int .u8 a0_3) := (blk_cell BK139.out 3).trans rfl
                        have hcz31_4 : wc.cell? ⟨gb139, 4, none⟩ = some (.int .i64 a0_4) := (blk_cell BK139.out 4).trans rfl
                        have hfz31_0 := blk_frozen BK139.out 0
                        have hfz31_1 := blk_frozen BK139.out 1
                        have hfz31_2 := blk_frozen BK139.out 2
                        have hfz31_3 := blk_frozen BK139.out 3
                        have hfz31_4 := blk_frozen BK139.out 4
                        go_wp2
                        go_ret
                        exact ⟨by (rfl), by repeat (with_reducible (exact HB.out))⟩
                      · rw [if_neg c30] at H
                        have c30b0 : (a0_2 == 0) = false := beq_eq_false_iff_ne.mpr c30
                        have c30b1 : (a0_2 != 0) = true := bne_iff_ne.mpr c30
                        have H' := Aside0.mk H
                        clear H
                        have hcz32_0 : wc.cell? ⟨gb139, 0, none⟩ = some (.int .u8 a0_0) := (blk_cell BK139.out 0).trans rfl
                        have hcz32_1 : wc.cell? ⟨gb139, 1, none⟩ = some (.int .i64 a0_1) := (blk_cell BK139.out 1).trans rfl
                        have hcz32_2 : wc.cell? ⟨gb139, 2, none⟩ = some (.int .i64 a0_2) := (blk_cell BK139.out 2).trans rfl
                        have hcz32_3 : wc.cell? ⟨gb139, 3, none⟩ = some (.int .u8 a0_3) := (blk_cell BK139.out 3).trans rfl
                        have hcz32_4 : wc.cell? ⟨gb139, 4, none⟩ = some (.int .i64 a0_4) := (blk_cell BK139.out 4).trans rfl
                        have hfz32_0 := blk_frozen BK139.out 0
                        have hfz32_1 := blk_frozen BK139.out 1
                        have hfz32_2 := blk_frozen BK139.out 2
                        have hfz32_3 := blk_frozen BK139.out 3
                        have hfz32_4 := blk_frozen BK139.out 4
                        go_wp2
                        go_meet
                        case rel => exact ⟨_, (false), (by (rfl)), H', ⟨by have := HJ1.out; have := HJ7.out; (omega)⟩, ⟨by (with_reducible skip); exact BK139.out⟩, ⟨by repeat (with_reducible (exact HB.out))⟩⟩
                  · rw [if_neg c27] at H
                    have c27b0 : (a0_0 == 4) = false := beq_eq_false_iff_ne.mpr c27
                    have c27b1 : (a0_0 != 4) = true := bne_iff_ne.mpr c27
                    by_cases c33 : a0_0 = 3
                    · rw [if_pos c33] at H
                      have c33b0 : (a0_0 == 3) = true := beq_iff_eq.mpr c33
                      have c33b1 : (a0_0 != 3) = false := bne_eq_false_iff_eq.mpr c33
                      clear c33
                      by_cases c34 : a0_1 = 0
                      · rw [if_pos c34] at H
                        have c34b0 : (a0_1 == 0) = true := beq_iff_eq.mpr c34
                        have c34b1 : (a0_1 != 0) = false := bne_eq_false_iff_eq.mpr c34
                        clear c34
                        obtain rfl := Option.some.inj H
                        have hcz35_0 : wc.cell? ⟨gb139, 0, none⟩ = some (.int .u8 a0_0) := (blk_cell BK139.out 0).trans rfl
                        have hcz35_1 : wc.cell? ⟨gb139, 1, none⟩ = some (.int .i64 a0_1) := (blk_cell BK139.out 1).trans rfl
                        have hcz35_2 : wc.cell? ⟨gb139, 2, none⟩ = some (.int .i64 a0_2) := (blk_cell BK139.out 2).trans rfl
                        have hcz35_3 : wc.cell? ⟨gb139, 3, none⟩ = some (.int .u8 a0_3) := (blk_cell BK139.out 3).trans rfl
                        have hcz35_4 : wc.cell? ⟨gb139, 4, none⟩ = some (.int .i64 a0_4) := (blk_cell BK139.out 4).trans rfl
                        have hfz35_0 := blk_frozen BK139.out 0
                        have hfz35_1 := blk_frozen BK139.out 1
                        have hfz35_2 := blk_frozen BK139.out 2
                        have hfz35_3 := blk_frozen BK139.out 3
                        have hfz35_4 := blk_frozen BK139.out 4
                        go_wp2
                        go_ret
                        exact ⟨by (rfl), by repeat (with_reducible (exact HB.out))⟩
                      · rw [if_neg c34] at H
                        have c34b0 : (a0_1 == 0) = false := beq_eq_false_iff_ne.mpr c34
                        have c34b1 : (a0_1 != 0) = true := bne_iff_ne.mpr c34
                        by_cases c36 : a0_2 = 0
                        · rw [if_pos c36] at H
                          have c36b0 : (a0_2 == 0) = true := beq_iff_eq.mpr c36
                          have c36b1 : (a0_2 != 0) = false := bne_eq_false_iff_eq.mpr c36
                          clear c36
                          obtain rfl := Option.some.inj H
                          have hcz37_0 : wc.cell? ⟨gb139, 0, none⟩ = some (.int .u8 a0_0) := (blk_cell BK139.out 0).trans rfl
                          have hcz37_1 : wc.cell? ⟨gb139, 1, none⟩ = some (.int .i64 a0_1) := (blk_cell BK139.out 1).trans rfl
                          have hcz37_2 : wc.cell? ⟨gb139, 2, none⟩ = some (.int .i64 a0_2) := (blk_cell BK139.out 2).trans rfl
                          have hcz37_3 : wc.cell? ⟨gb139, 3, none⟩ = some (.int .u8 a0_3) := (blk_cell BK139.out 3).trans rfl
                          have hcz37_4 : wc.cell? ⟨gb139, 4, none⟩ = some (.int .i64 a0_4) := (blk_cell BK139.out 4).trans rfl
                          have hfz37_0 := blk_frozen BK139.out 0
                          have hfz37_1 := blk_frozen BK139.out 1
                          have hfz37_2 := blk_frozen BK139.out 2
                          have hfz37_3 := blk_frozen BK139.out 3
                          have hfz37_4 := blk_frozen BK139.out 4
                          go_wp2
                          go_ret
                          exact ⟨by (rfl), by repeat (with_reducible (exact HB.out))⟩
                        · rw [if_neg c36] at H
                          have c36b0 : (a0_2 == 0) = false := beq_eq_false_iff_ne.mpr c36
                          have c36b1 : (a0_2 != 0) = true := bne_iff_ne.mpr c36
                          have H' := Aside0.mk H
                          clear H
                          have hcz38_0 : wc.cell? ⟨gb139, 0, none⟩ = some (.int .u8 a0_0) := (blk_cell BK139.out 0).trans rfl
                          have hcz38_1 : wc.cell? ⟨gb139, 1, none⟩ = some (.int .i64 a0_1) := (blk_cell BK139.out 1).trans rfl
                          have hcz38_2 : wc.cell? ⟨gb139, 2, none⟩ = some (.int .i64 a0_2) := (blk_cell BK139.out 2).trans rfl
                          have hcz38_3 : wc.cell? ⟨gb139, 3, none⟩ = some (.int .u8 a0_3) := (blk_cell BK139.out 3).trans rfl
                          have hcz38_4 : wc.cell? ⟨gb139, 4, none⟩ = some (.int .i64 a0_4) := (blk_cell BK139.out 4).trans rfl
                          have hfz38_0 := blk_frozen BK139.out 0
                          have hfz38_1 := blk_frozen BK139.out 1
                          have hfz38_2 := blk_frozen BK139.out 2
                          have hfz38_3 := blk_frozen BK139.out 3
                          have hfz38_4 := blk_frozen BK139.out 4
                          go_wp2
                          go_meet
                          case rel => exact ⟨_, (true), (by (rfl)), H', ⟨by have := HJ1.out; have := HJ7.out; (omega)⟩, ⟨by (with_reducible skip); exact BK139.out⟩, ⟨by repeat (with_reducible (exact HB.out))⟩⟩
                    · rw [if_neg c33] at H
                      have c33b0 : (a0_0 == 3) = false := beq_eq_false_iff_ne.mpr c33
                      have c33b1 : (a0_0 != 3) = true := bne_iff_ne.mpr c33
                      by_cases c39 : a0_0 = 1
                      · rw [if_pos c39] at H
                        have c39b0 : (a0_0 == 1) = true := beq_iff_eq.mpr c39
                        have c39b1 : (a0_0 != 1) = false := bne_eq_false_iff_eq.mpr c39
                        clear c39
                        have H' := Aside0.mk H
                        clear H
                        go_wp2
                        go_meet
                        case rel => exact ⟨_, (false), (by (rfl)), H', ⟨by have := HJ1.out; have := HJ7.out; (omega)⟩, ⟨by (with_reducible skip); exact BK139.out⟩, ⟨by repeat (with_reducible (exact HB.out))⟩⟩
                      · rw [if_neg c39] at H
                        have c39b0 : (a0_0 == 1) = false := beq_eq_false_iff_ne.mpr c39
                        have c39b1 : (a0_0 != 1) = true := bne_iff_ne.mpr c39
                        have H' := Aside0.mk H
                        clear H
                        go_wp2
                        go_meet
                        case rel => exact ⟨_, (true), (by (rfl)), H', ⟨by have := HJ1.out; have := HJ7.out; (omega)⟩, ⟨by (with_reducible skip); exact BK139.out⟩, ⟨by repeat (with_reducible (exact HB.out))⟩⟩
              case rest =>
                clear HC17
                try clear hcz18_0
                try clear hcz18_1
                try clear hcz18_2
                try clear hcz18_3
                try clear hcz18_4
                try clear hfz18_0
                try clear hfz18_1
                try clear hfz18_2
                try clear hfz18_3
                try clear hfz18_4
                obtain ⟨kq, x3_16, rfl, HA, HJ16, BK139, HB⟩ := hcut
                cases kq with
                | zero => exact absurd HA.out (by simp [topo_Check.j2])
                | succ kj16 =>
                  have H := HA.out
                  clear HA
                  simp only [topo_Check.j2] at H
                  have HC40 := Aside0.mk H
                  clear H
                  have hcz41_0 : wc.cell? ⟨gb139, 0, none⟩ = some (.int .u8 a0_0) := (blk_cell BK139.out 0).trans rfl
                  have hcz41_1 : wc.cell? ⟨gb139, 1, none⟩ = some (.int .i64 a0_1) := (blk_cell BK139.out 1).trans rfl
                  have hcz41_2 : wc.cell? ⟨gb139, 2, none⟩ = some (.int .i64 a0_2) := (blk_cell BK139.out 2).trans rfl
                  have hcz41_3 : wc.cell? ⟨gb139, 3, none⟩ = some (.int .u8 a0_3) := (blk_cell BK139.out 3).trans rfl
                  have hcz41_4 : wc.cell? ⟨gb139, 4, none⟩ = some (.int .i64 a0_4) := (blk_cell BK139.out 4).trans rfl
                  have hfz41_0 := blk_frozen BK139.out 0
                  have hfz41_1 := blk_frozen BK139.out 1
                  have hfz41_2 := blk_frozen BK139.out 2
                  have hfz41_3 := blk_frozen BK139.out 3
                  have hfz41_4 := blk_frozen BK139.out 4
                  go_upto_if 54 with (fail)
                  go_cut [54] (fun v54 wc => ∃ (kq : Nat) (x54_39 : Bool), v54 = .bool x54_39 ∧ Aside0 (topo_Check.j3 kq x54_39 a0_0 a0_1 a0_2 a0_3 a0_4 = some r) ∧ Aside0 (kq ≤ kj16) ∧ Aside0 (wc.heap[gb139]? = some (.cells #[.int .u8 a0_0, .int .i64 a0_1, .int .i64 a0_2, .int .u8 a0_3, .int .i64 a0_4] 23 (0, 0))) ∧ Aside0 (Below w.heap.size w wc))
                  case first =>
                    have H := HC40.out
                    clear HC40
                    by_cases c42 : a0_3 > 2
                    · rw [if_pos c42] at H
                      have c42b0 : decide (2 < a0_3) = true := decide_eq_true c42
                      clear c42
                      (rw [c42b0])
                      have H' := Aside0.mk H
                      clear H
                      go_wp2
                      go_meet
                      case rel => exact ⟨_, (decide (a0_3 > 2)), (by (simp [*]; done)), H', ⟨by have := HJ1.out; have := HJ7.out; have := HJ16.out; (omega)⟩, ⟨by (with_reducible skip); exact BK139.out⟩, ⟨by repeat (with_reducible (exact HB.out))⟩⟩
                    · rw [if_neg c42] at H
                      have c42b0 : decide (2 < a0_3) = false := decide_eq_false c42
                      clear c42
                      (rw [c42b0])
                      by_cases c43 : x3_16 = true
                      · subst c43
                        have H1 : (if a0_0 = 3 then (topo_Check.j3 kj16 (a0_3 == 0) a0_0 a0_1 a0_2 a0_3 a0_4) else (topo_Check.j3 kj16 false a0_0 a0_1 a0_2 a0_3 a0_4)) = some r := by rw [if_pos rfl] at H; exact H
                        clear H
                        have H := H1
                        clear H1
                        by_cases c44 : a0_0 = 3
                        · rw [if_pos c44] at H
                          have c44b0 : (a0_0 == 3) = true := beq_iff_eq.mpr c44
                          have c44b1 : (a0_0 != 3) = false := bne_eq_false_iff_eq.mpr c44
                          clear c44
                          have H' := Aside0.mk H
                          clear H
                          have hcz45_0 : wc.cell? ⟨gb139, 0, none⟩ = some (.int .u8 a0_0) := (blk_cell BK139.out 0).trans rfl
                          have hcz45_1 : wc.cell? ⟨gb139, 1, none⟩ = some (.int .i64 a0_1) := (blk_cell BK139.out 1).trans rfl
                          have hcz45_2 : wc.cell? ⟨gb139, 2, none⟩ = some (.int .i64 a0_2) := (blk_cell BK139.out 2).trans rfl
                          have hcz45_3 : wc.cell? ⟨gb139, 3, none⟩ = some (.int .u8 a0_3) := (blk_cell BK139.out 3).trans rfl
                          have hcz45_4 : wc.cell? ⟨gb139, 4, none⟩ = some (.int .i64 a0_4) := (blk_cell BK139.out 4).trans rfl
                          have hfz45_0 := blk_frozen BK139.out 0
                          have hfz45_1 := blk_frozen BK139.out 1
                          have hfz45_2 := blk_frozen BK139.out 2
                          have hfz45_3 := blk_frozen BK139.out 3
                          have hfz45_4 := blk_frozen BK139.out 4
                          go_wp2
                          go_meet
                          case rel => exact ⟨_, (a0_3 == 0), (by (rfl)), H', ⟨by have := HJ1.out; have := HJ7.out; have := HJ16.out; (omega)⟩, ⟨by (with_reducible skip); exact BK139.out⟩, ⟨by repeat (with_reducible (exact HB.out))⟩⟩
                        · rw [if_neg c44] at H
                          have c44b0 : (a0_0 == 3) = false := beq_eq_false_iff_ne.mpr c44
                          have c44b1 : (a0_0 != 3) = true := bne_iff_ne.mpr c44
                          have H' := Aside0.mk H
                          clear H
                          have hcz46_0 : wc.cell? ⟨gb139, 0, none⟩ = some (.int .u8 a0_0) := (blk_cell BK139.out 0).trans rfl
                          have hcz46_1 : wc.cell? ⟨gb139, 1, none⟩ = some (.int .i64 a0_1) := (blk_cell BK139.out 1).trans rfl
                          have hcz46_2 : wc.cell? ⟨gb139, 2, none⟩ = some (.int .i64 a0_2) := (blk_cell BK139.out 2).trans rfl
                          have hcz46_3 : wc.cell? ⟨gb139, 3, none⟩ = some (.int .u8 a0_3) := (blk_cell BK139.out 3).trans rfl
                          have hcz46_4 : wc.cell? ⟨gb139, 4, none⟩ = some (.int .i64 a0_4) := (blk_cell BK139.out 4).trans rfl
                          have hfz46_0 := blk_frozen BK139.out 0
                          have hfz46_1 := blk_frozen BK139.out 1
                          have hfz46_2 := blk_frozen BK139.out 2
                          have hfz46_3 := blk_frozen BK139.out 3
                          have hfz46_4 := blk_frozen BK139.out 4
                          go_wp2
                          go_meet
                          case rel => exact ⟨_, (false), (by (rfl)), H', ⟨by have := HJ1.out; have := HJ7.out; have := HJ16.out; (omega)⟩, ⟨by (with_reducible skip); exact BK139.out⟩, ⟨by repeat (with_reducible (exact HB.out))⟩⟩
                      · replace c43 := Bool.eq_false_iff.mpr c43
                        subst c43
                        have H1 : (if a0_3 = 0 then (if a0_0 = 3 then (topo_Check.j3 kj16 (a0_3 == 0) a0_0 a0_1 a0_2 a0_3 a0_4) else (topo_Check.j3 kj16 false a0_0 a0_1 a0_2 a0_3 a0_4)) else (topo_Check.j3 kj16 (a0_3 != 0) a0_0 a0_1 a0_2 a0_3 a0_4)) = some r := by rw [if_neg (show ¬ (false = true) by decide)] at H; exact H
                        clear H
                        have H := H1
                        clear H1
                        by_cases c47 : a0_3 = 0
                        · rw [if_pos c47] at H
                          have c47b0 : (a0_3 == 0) = true := beq_iff_eq.mpr c47
                          have c47b1 : (a0_3 != 0) = false := bne_eq_false_iff_eq.mpr c47
                          clear c47
                          by_cases c48 : a0_0 = 3
                          · rw [if_pos c48] at H
                            have c48b0 : (a0_0 == 3) = true := beq_iff_eq.mpr c48
                            have c48b1 : (a0_0 != 3) = false := bne_eq_false_iff_eq.mpr c48
                            clear c48
                            have H' := Aside0.mk H
                            clear H
                            have hcz49_0 : wc.cell? ⟨gb139, 0, none⟩ = some (.int .u8 a0_0) := (blk_cell BK139.out 0).trans rfl
                            have hcz49_1 : wc.cell? ⟨gb139, 1, none⟩ = some (.int .i64 a0_1) := (blk_cell BK139.out 1).trans rfl
                            have hcz49_2 : wc.cell? ⟨gb139, 2, none⟩ = some (.int .i64 a0_2) := (blk_cell BK139.out 2).trans rfl
                            have hcz49_3 : wc.cell? ⟨gb139, 3, none⟩ = some (.int .u8 a0_3) := (blk_cell BK139.out 3).trans rfl
                            have hcz49_4 : wc.cell? ⟨gb139, 4, none⟩ = some (.int .i64 a0_4) := (blk_cell BK139.out 4).trans rfl
                            have hfz49_0 := blk_frozen BK139.out 0
                            have hfz49_1 := blk_frozen BK139.out 1
                            have hfz49_2 := blk_frozen BK139.out 2
                            have hfz49_3 := blk_frozen BK139.out 3
                            have hfz49_4 := blk_frozen BK139.out 4
                            go_wp2
                            go_meet
                            case rel => exact ⟨_, (a0_3 == 0), (by (simp [*]; done)), H', ⟨by have := HJ1.out; have := HJ7.out; have := HJ16.out; (omega)⟩, ⟨by (with_reducible skip); exact BK139.out⟩, ⟨by repeat (with_reducible (exact HB.out))⟩⟩
                          · rw [if_neg c48] at H
                            have c48b0 : (a0_0 == 3) = false := beq_eq_false_iff_ne.mpr c48
                            have c48b1 : (a0_0 != 3) = true := bne_iff_ne.mpr c48
                            have H' := Aside0.mk H
                            clear H
                            have hcz50_0 : wc.cell? ⟨gb139, 0, none⟩ = some (.int .u8 a0_0) := (blk_cell BK139.out 0).trans rfl
                            have hcz50_1 : wc.cell? ⟨gb139, 1, none⟩ = some (.int .i64 a0_1) := (blk_cell BK139.out 1).trans rfl
                            have hcz50_2 : wc.cell? ⟨gb139, 2, none⟩ = some (.int .i64 a0_2) := (blk_cell BK139.out 2).trans rfl
                            have hcz50_3 : wc.cell? ⟨gb139, 3, none⟩ = some (.int .u8 a0_3) := (blk_cell BK139.out 3).trans rfl
                            have hcz50_4 : wc.cell? ⟨gb139, 4, none⟩ = some (.int .i64 a0_4) := (blk_cell BK139.out 4).trans rfl
                            have hfz50_0 := blk_frozen BK139.out 0
                            have hfz50_1 := blk_frozen BK139.out 1
                            have hfz50_2 := blk_frozen BK139.out 2
                            have hfz50_3 := blk_frozen BK139.out 3
                            have hfz50_4 := blk_frozen BK139.out 4
                            go_wp2
                            go_meet
                            case rel => exact ⟨_, (false), (by (rfl)), H', ⟨by have := HJ1.out; have := HJ7.out; have := HJ16.out; (omega)⟩, ⟨by (with_reducible skip); exact BK139.out⟩, ⟨by repeat (with_reducible (exact HB.out))⟩⟩
                        · rw [if_neg c47] at H
                          have c47b0 : (a0_3 == 0) = false := beq_eq_false_iff_ne.mpr c47
                          have c47b1 : (a0_3 != 0) = true := bne_iff_ne.mpr c47
                          have H' := Aside0.mk H
                          clear H
                          have hcz51_0 : wc.cell? ⟨gb139, 0, none⟩ = some (.int .u8 a0_0) := (blk_cell BK139.out 0).trans rfl
                          have hcz51_1 : wc.cell? ⟨gb139, 1, none⟩ = some (.int .i64 a0_1) := (blk_cell BK139.out 1).trans rfl
                          have hcz51_2 : wc.cell? ⟨gb139, 2, none⟩ = some (.int .i64 a0_2) := (blk_cell BK139.out 2).trans rfl
                          have hcz51_3 : wc.cell? ⟨gb139, 3, none⟩ = some (.int .u8 a0_3) := (blk_cell BK139.out 3).trans rfl
                          have hcz51_4 : wc.cell? ⟨gb139, 4, none⟩ = some (.int .i64 a0_4) := (blk_cell BK139.out 4).trans rfl
                          have hfz51_0 := blk_frozen BK139.out 0
                          have hfz51_1 := blk_frozen BK139.out 1
                          have hfz51_2 := blk_frozen BK139.out 2
                          have hfz51_3 := blk_frozen BK139.out 3
                          have hfz51_4 := blk_frozen BK139.out 4
                          go_wp2
                          go_meet
                          case rel => exact ⟨_, (a0_3 != 0), (by (simp [*]; done)), H', ⟨by have := HJ1.out; have := HJ7.out; have := HJ16.out; (omega)⟩, ⟨by (with_reducible skip); exact BK139.out⟩, ⟨by repeat (with_reducible (exact HB.out))⟩⟩
                  case rest =>
                    clear HC40
                    try clear hcz41_0
                    try clear hcz41_1
                    try clear hcz41_2
                    try clear hcz41_3
                    try clear hcz41_4
                    try clear hfz41_0
                    try clear hfz41_1
                    try clear hfz41_2
                    try clear hfz41_3
                    try clear hfz41_4
                    obtain ⟨kq, x54_39, rfl, HA, HJ39, BK139, HB⟩ := hcut
                    cases kq with
                    | zero => exact absurd HA.out (by simp [topo_Check.j3])
                    | succ kj39 =>
                      have H := HA.out
                      clear HA
                      simp only [topo_Check.j3] at H
                      by_cases c52 : x54_39 = true
                      · subst c52
                        have H1 : (some 44) = some r := by rw [if_pos rfl] at H; exact H
                        clear H
                        have H := H1
                        clear H1
                        obtain rfl := Option.some.inj H
                        go_wp2
                        go_ret
                        exact ⟨by (rfl), by repeat (with_reducible (exact HB.out))⟩
                      · replace c52 := Bool.eq_false_iff.mpr c52
                        subst c52
                        have H1 : (if a0_3 = 0 then (topo_Check.j4 kj39 (a0_4 != 0) a0_0 a0_1 a0_2 a0_3 a0_4) else (topo_Check.j4 kj39 false a0_0 a0_1 a0_2 a0_3 a0_4)) = some r := by rw [if_neg (show ¬ (false = true) by decide)] at H; exact H
                        clear H
                        have H := H1
                        clear H1
                        have HC53 := Aside0.mk H
                        clear H
                        go_upto_region 21 with (fail)
                        go_cut [73] (fun v73 wc => ∃ (kq : Nat) (x73_52 : Bool), v73 = .bool x73_52 ∧ Aside0 (topo_Check.j4 kq x73_52 a0_0 a0_1 a0_2 a0_3 a0_4 = some r) ∧ Aside0 (kq ≤ kj39) ∧ Aside0 (wc.heap[gb139]? = some (.cells #[.int .u8 a0_0, .int .i64 a0_1, .int .i64 a0_2, .int .u8 a0_3, .int .i64 a0_4] 23 (0, 0))) ∧ Aside0 (Below w.heap.size w wc))
                        case first =>
                          have H := HC53.out
                          clear HC53
                          by_cases c54 : a0_3 = 0
                          · rw [if_pos c54] at H
                            have c54b0 : (a0_3 == 0) = true := beq_iff_eq.mpr c54
                            have c54b1 : (a0_3 != 0) = false := bne_eq_false_iff_eq.mpr c54
                            clear c54
                            (skip)
                            have H' := Aside0.mk H
                            clear H
                            have hcz55_0 : wc.cell? ⟨gb139, 0, none⟩ = some (.int .u8 a0_0) := (blk_cell BK139.out 0).trans rfl
                            have hcz55_1 : wc.cell? ⟨gb139, 1, none⟩ = some (.int .i64 a0_1) := (blk_cell BK139.out 1).trans rfl
                            have hcz55_2 : wc.cell? ⟨gb139, 2, none⟩ = some (.int .i64 a0_2) := (blk_cell BK139.out 2).trans rfl
                            have hcz55_3 : wc.cell? ⟨gb139, 3, none⟩ = some (.int .u8 a0_3) := (blk_cell BK139.out 3).trans rfl
                            have hcz55_4 : wc.cell? ⟨gb139, 4, none⟩ = some (.int .i64 a0_4) := (blk_cell BK139.out 4).trans rfl
                            have hfz55_0 := blk_frozen BK139.out 0
                            have hfz55_1 := blk_frozen BK139.out 1
                            have hfz55_2 := blk_frozen BK139.out 2
                            have hfz55_3 := blk_frozen BK139.out 3
                            have hfz55_4 := blk_frozen BK139.out 4
                            go_wp2
                            go_meet
                            case rel => exact ⟨_, (a0_4 != 0), (by (rfl)), H', ⟨by have := HJ1.out; have := HJ7.out; have := HJ16.out; have := HJ39.out; (omega)⟩, ⟨by (with_reducible skip); exact BK139.out⟩, ⟨by repeat (with_reducible (exact HB.out))⟩⟩
                          · rw [if_neg c54] at H
                            have c54b0 : (a0_3 == 0) = false := beq_eq_false_iff_ne.mpr c54
                            have c54b1 : (a0_3 != 0) = true := bne_iff_ne.mpr c54
                            (skip)
                            have H' := Aside0.mk H
                            clear H
                            have hcz56_0 : wc.cell? ⟨gb139, 0, none⟩ = some (.int .u8 a0_0) := (blk_cell BK139.out 0).trans rfl
                            have hcz56_1 : wc.cell? ⟨gb139, 1, none⟩ = some (.int .i64 a0_1) := (blk_cell BK139.out 1).trans rfl
                            have hcz56_2 : wc.cell? ⟨gb139, 2, none⟩ = some (.int .i64 a0_2) := (blk_cell BK139.out 2).trans rfl
                            have hcz56_3 : wc.cell? ⟨gb139, 3, none⟩ = some (.int .u8 a0_3) := (blk_cell BK139.out 3).trans rfl
                            have hcz56_4 : wc.cell? ⟨gb139, 4, none⟩ = some (.int .i64 a0_4) := (blk_cell BK139.out 4).trans rfl
                            have hfz56_0 := blk_frozen BK139.out 0
                            have hfz56_1 := blk_frozen BK139.out 1
                            have hfz56_2 := blk_frozen BK139.out 2
                            have hfz56_3 := blk_frozen BK139.out 3
                            have hfz56_4 := blk_frozen BK139.out 4
                            go_wp2
                            go_meet
                            case rel => exact ⟨_, (false), (by (rfl)), H', ⟨by have := HJ1.out; have := HJ7.out; have := HJ16.out; have := HJ39.out; (omega)⟩, ⟨by (with_reducible skip); exact BK139.out⟩, ⟨by repeat (with_reducible (exact HB.out))⟩⟩
                        case rest =>
                          clear HC53
                          obtain ⟨kq, x73_52, rfl, HA, HJ52, BK139, HB⟩ := hcut
                          cases kq with
                          | zero => exact absurd HA.out (by simp [topo_Check.j4])
                          | succ kj52 =>
                            have H := HA.out
                            clear HA
                            simp only [topo_Check.j4] at H
                            by_cases c57 : x73_52 = true
                            · subst c57
                              have H1 : (some 43) = some r := by rw [if_pos rfl] at H; exact H
                              clear H
                              have H := H1
                              clear H1
                              obtain rfl := Option.some.inj H
                              go_wp2
                              go_ret
                              exact ⟨by (rfl), by repeat (with_reducible (exact HB.out))⟩
                            · replace c57 := Bool.eq_false_iff.mpr c57
                              subst c57
                              have H1 : (if a0_3 = 0 then (some 0) else ((topo_turned.f a0_0 a0_1 a0_2 a0_3 a0_4).bind fun t140 => (if a0_4 ≤ (wrap64 (-t140)) then (some 43) else (if a0_4 ≥ t140 then (some 43) else (if a0_0 = 2 then (if a0_4 = 0 then (some 43) else (if a0_1 = 0 then (some 43) else (if a0_2 = 0 then (some 43) else (some 0)))) else (some 0)))))) = some r := by rw [if_neg (show ¬ (false = true) by decide)] at H; exact H
                              clear H
                              have H := H1
                              clear H1
                              by_cases c58 : a0_3 = 0
                              · rw [if_pos c58] at H
                                have c58b0 : (a0_3 == 0) = true := beq_iff_eq.mpr c58
                                have c58b1 : (a0_3 != 0) = false := bne_eq_false_iff_eq.mpr c58
                                clear c58
                                obtain rfl := Option.some.inj H
                                have hcz59_0 : wc.cell? ⟨gb139, 0, none⟩ = some (.int .u8 a0_0) := (blk_cell BK139.out 0).trans rfl
                                have hcz59_1 : wc.cell? ⟨gb139, 1, none⟩ = some (.int .i64 a0_1) := (blk_cell BK139.out 1).trans rfl
                                have hcz59_2 : wc.cell? ⟨gb139, 2, none⟩ = some (.int .i64 a0_2) := (blk_cell BK139.out 2).trans rfl
                                have hcz59_3 : wc.cell? ⟨gb139, 3, none⟩ = some (.int .u8 a0_3) := (blk_cell BK139.out 3).trans rfl
                                have hcz59_4 : wc.cell? ⟨gb139, 4, none⟩ = some (.int .i64 a0_4) := (blk_cell BK139.out 4).trans rfl
                                have hfz59_0 := blk_frozen BK139.out 0
                                have hfz59_1 := blk_frozen BK139.out 1
                                have hfz59_2 := blk_frozen BK139.out 2
                                have hfz59_3 := blk_frozen BK139.out 3
                                have hfz59_4 := blk_frozen BK139.out 4
                                go_wp2
                                go_ret
                                exact ⟨by (rfl), by repeat (with_reducible (exact HB.out))⟩
                              · rw [if_neg c58] at H
                                have c58b0 : (a0_3 == 0) = false := beq_eq_false_iff_ne.mpr c58
                                have c58b1 : (a0_3 != 0) = true := bne_iff_ne.mpr c58
                                replace H := Option.bind_eq_some_iff.mp H
                                obtain ⟨t140, A600, H⟩ := H
                                replace H : (if a0_4 ≤ (wrap64 (-t140)) then (some 43) else (if a0_4 ≥ t140 then (some 43) else (if a0_0 = 2 then (if a0_4 = 0 then (some 43) else (if a0_1 = 0 then (some 43) else (if a0_2 = 0 then (some 43) else (some 0)))) else (some 0)))) = some r := H
                                have A60 := Aside0.mk A600
                                clear A600
                                by_cases c61 : a0_4 ≤ (wrap64 (-t140))
                                · rw [if_pos c61] at H
                                  have c61b0 : decide (a0_4 ≤ (wrap64 (-t140))) = true := decide_eq_true c61
                                  clear c61
                                  obtain rfl := Option.some.inj H
                                  have hcz62_0 : wc.cell? ⟨gb139, 0, none⟩ = some (.int .u8 a0_0) := (blk_cell BK139.out 0).trans rfl
                                  have hcz62_1 : wc.cell? ⟨gb139, 1, none⟩ = some (.int .i64 a0_1) := (blk_cell BK139.out 1).trans rfl
                                  have hcz62_2 : wc.cell? ⟨gb139, 2, none⟩ = some (.int .i64 a0_2) := (blk_cell BK139.out 2).trans rfl
                                  have hcz62_3 : wc.cell? ⟨gb139, 3, none⟩ = some (.int .u8 a0_3) := (blk_cell BK139.out 3).trans rfl
                                  have hcz62_4 : wc.cell? ⟨gb139, 4, none⟩ = some (.int .i64 a0_4) := (blk_cell BK139.out 4).trans rfl
                                  have hfz62_0 := blk_frozen BK139.out 0
                                  have hfz62_1 := blk_frozen BK139.out 1
                                  have hfz62_2 := blk_frozen BK139.out 2
                                  have hfz62_3 := blk_frozen BK139.out 3
                                  have hfz62_4 := blk_frozen BK139.out 4
                                  go_wp2_with ((((with_reducible refine gate_callee (f := 17) rfl ?_); refine goesL_ (some 87) rfl rfl Try.func17 (by kernel_rfl) rfl #[.agg #[.int .u8 a0_0, .int .i64 a0_1, .int .i64 a0_2, .int .u8 a0_3, .int .i64 a0_4]] rfl (by (try simp only [List.map_toArray, List.map_cons, List.map_nil]); (rfl)) ?_; (with_reducible refine (topo_turned.calls a0_0 a0_1 a0_2 a0_3 a0_4 t140 _ A60.out).mono ?_); rintro e w63 ⟨rfl, hb⟩; refine ⟨_, rfl, ?_⟩; replace BK139 := Aside0.mk (blk_below BK139.out hb); replace HB := Aside0.mk (below_step HB.out hb); (try clear hb); have hcz64_0 : w63.cell? ⟨gb139, 0, none⟩ = some (.int .u8 a0_0) := (blk_cell BK139.out 0).trans rfl; have hcz64_1 : w63.cell? ⟨gb139, 1, none⟩ = some (.int .i64 a0_1) := (blk_cell BK139.out 1).trans rfl; have hcz64_2 : w63.cell? ⟨gb139, 2, none⟩ = some (.int .i64 a0_2) := (blk_cell BK139.out 2).trans rfl; have hcz64_3 : w63.cell? ⟨gb139, 3, none⟩ = some (.int .u8 a0_3) := (blk_cell BK139.out 3).trans rfl; have hcz64_4 : w63.cell? ⟨gb139, 4, none⟩ = some (.int .i64 a0_4) := (blk_cell BK139.out 4).trans rfl; have hfz64_0 := blk_frozen BK139.out 0; have hfz64_1 := blk_frozen BK139.out 1; have hfz64_2 := blk_frozen BK139.out 2; have hfz64_3 := blk_frozen BK139.out 3; have hfz64_4 := blk_frozen BK139.out 4)))
                                  go_ret
                                  exact ⟨by (rfl), by repeat (with_reducible (exact HB.out))⟩
                                · rw [if_neg c61] at H
                                  have c61b0 : decide (a0_4 ≤ (wrap64 (-t140))) = false := decide_eq_false c61
                                  clear c61
                                  by_cases c65 : a0_4 ≥ t140
                                  · rw [if_pos c65] at H
                                    have c65b0 : decide (t140 ≤ a0_4) = true := decide_eq_true c65
                                    clear c65
                                    obtain rfl := Option.some.inj H
                                    have hcz66_0 : wc.cell? ⟨gb139, 0, none⟩ = some (.int .u8 a0_0) := (blk_cell BK139.out 0).trans rfl
                                    have hcz66_1 : wc.cell? ⟨gb139, 1, none⟩ = some (.int .i64 a0_1) := (blk_cell BK139.out 1).trans rfl
                                    have hcz66_2 : wc.cell? ⟨gb139, 2, none⟩ = some (.int .i64 a0_2) := (blk_cell BK139.out 2).trans rfl
                                    have hcz66_3 : wc.cell? ⟨gb139, 3, none⟩ = some (.int .u8 a0_3) := (blk_cell BK139.out 3).trans rfl
                                    have hcz66_4 : wc.cell? ⟨gb139, 4, none⟩ = some (.int .i64 a0_4) := (blk_cell BK139.out 4).trans rfl
                                    have hfz66_0 := blk_frozen BK139.out 0
                                    have hfz66_1 := blk_frozen BK139.out 1
                                    have hfz66_2 := blk_frozen BK139.out 2
                                    have hfz66_3 := blk_frozen BK139.out 3
                                    have hfz66_4 := blk_frozen BK139.out 4
                                    go_wp2_with ((((with_reducible refine gate_callee (f := 17) rfl ?_); refine goesL_ (some 87) rfl rfl Try.func17 (by kernel_rfl) rfl #[.agg #[.int .u8 a0_0, .int .i64 a0_1, .int .i64 a0_2, .int .u8 a0_3, .int .i64 a0_4]] rfl (by (try simp only [List.map_toArray, List.map_cons, List.map_nil]); (rfl)) ?_; (with_reducible refine (topo_turned.calls a0_0 a0_1 a0_2 a0_3 a0_4 t140 _ A60.out).mono ?_); rintro e w67 ⟨rfl, hb⟩; refine ⟨_, rfl, ?_⟩; replace BK139 := Aside0.mk (blk_below BK139.out hb); replace HB := Aside0.mk (below_step HB.out hb); (try clear hb); have hcz68_0 : w67.cell? ⟨gb139, 0, none⟩ = some (.int .u8 a0_0) := (blk_cell BK139.out 0).trans rfl; have hcz68_1 : w67.cell? ⟨gb139, 1, none⟩ = some (.int .i64 a0_1) := (blk_cell BK139.out 1).trans rfl; have hcz68_2 : w67.cell? ⟨gb139, 2, none⟩ = some (.int .i64 a0_2) := (blk_cell BK139.out 2).trans rfl; have hcz68_3 : w67.cell? ⟨gb139, 3, none⟩ = some (.int .u8 a0_3) := (blk_cell BK139.out 3).trans rfl; have hcz68_4 : w67.cell? ⟨gb139, 4, none⟩ = some (.int .i64 a0_4) := (blk_cell BK139.out 4).trans rfl; have hfz68_0 := blk_frozen BK139.out 0; have hfz68_1 := blk_frozen BK139.out 1; have hfz68_2 := blk_frozen BK139.out 2; have hfz68_3 := blk_frozen BK139.out 3; have hfz68_4 := blk_frozen BK139.out 4)))
                                    go_ret
                                    exact ⟨by (rfl), by repeat (with_reducible (exact HB.out))⟩
                                  · rw [if_neg c65] at H
                                    have c65b0 : decide (t140 ≤ a0_4) = false := decide_eq_false c65
                                    clear c65
                                    by_cases c69 : a0_0 = 2
                                    · rw [if_pos c69] at H
                                      have c69b0 : (a0_0 == 2) = true := beq_iff_eq.mpr c69
                                      have c69b1 : (a0_0 != 2) = false := bne_eq_false_iff_eq.mpr c69
                                      clear c69
                                      by_cases c70 : a0_4 = 0
                                      · rw [if_pos c70] at H
                                        have c70b0 : (a0_4 == 0) = true := beq_iff_eq.mpr c70
                                        have c70b1 : (a0_4 != 0) = false := bne_eq_false_iff_eq.mpr c70
                                        clear c70
                                        obtain rfl := Option.some.inj H
                                        have hcz71_0 : wc.cell? ⟨gb139, 0, none⟩ = some (.int .u8 a0_0) := (blk_cell BK139.out 0).trans rfl
                                        have hcz71_1 : wc.cell? ⟨gb139, 1, none⟩ = some (.int .i64 a0_1) := (blk_cell BK139.out 1).trans rfl
                                        have hcz71_2 : wc.cell? ⟨gb139, 2, none⟩ = some (.int .i64 a0_2) := (blk_cell BK139.out 2).trans rfl
                                        have hcz71_3 : wc.cell? ⟨gb139, 3, none⟩ = some (.int .u8 a0_3) := (blk_cell BK139.out 3).trans rfl
                                        have hcz71_4 : wc.cell? ⟨gb139, 4, none⟩ = some (.int .i64 a0_4) := (blk_cell BK139.out 4).trans rfl
                                        have hfz71_0 := blk_frozen BK139.out 0
                                        have hfz71_1 := blk_frozen BK139.out 1
                                        have hfz71_2 := blk_frozen BK139.out 2
                                        have hfz71_3 := blk_frozen BK139.out 3
                                        have hfz71_4 := blk_frozen BK139.out 4
                                        go_wp2_with ((((with_reducible refine gate_callee (f := 17) rfl ?_); refine goesL_ (some 87) rfl rfl Try.func17 (by kernel_rfl) rfl #[.agg #[.int .u8 a0_0, .int .i64 a0_1, .int .i64 a0_2, .int .u8 a0_3, .int .i64 a0_4]] rfl (by (try simp only [List.map_toArray, List.map_cons, List.map_nil]); (rfl)) ?_; (with_reducible refine (topo_turned.calls a0_0 a0_1 a0_2 a0_3 a0_4 t140 _ A60.out).mono ?_); rintro e w72 ⟨rfl, hb⟩; refine ⟨_, rfl, ?_⟩; replace BK139 := Aside0.mk (blk_below BK139.out hb); replace HB := Aside0.mk (below_step HB.out hb); (try clear hb); have hcz73_0 : w72.cell? ⟨gb139, 0, none⟩ = some (.int .u8 a0_0) := (blk_cell BK139.out 0).trans rfl; have hcz73_1 : w72.cell? ⟨gb139, 1, none⟩ = some (.int .i64 a0_1) := (blk_cell BK139.out 1).trans rfl; have hcz73_2 : w72.cell? ⟨gb139, 2, none⟩ = some (.int .i64 a0_2) := (blk_cell BK139.out 2).trans rfl; have hcz73_3 : w72.cell? ⟨gb139, 3, none⟩ = some (.int .u8 a0_3) := (blk_cell BK139.out 3).trans rfl; have hcz73_4 : w72.cell? ⟨gb139, 4, none⟩ = some (.int .i64 a0_4) := (blk_cell BK139.out 4).trans rfl; have hfz73_0 := blk_frozen BK139.out 0; have hfz73_1 := blk_frozen BK139.out 1; have hfz73_2 := blk_frozen BK139.out 2; have hfz73_3 := blk_frozen BK139.out 3; have hfz73_4 := blk_frozen BK139.out 4)))
                                        go_ret
                                        exact ⟨by (rfl), by repeat (with_reducible (exact HB.out))⟩
                                      · rw [if_neg c70] at H
                                        have c70b0 : (a0_4 == 0) = false := beq_eq_false_iff_ne.mpr c70
                                        have c70b1 : (a0_4 != 0) = true := bne_iff_ne.mpr c70
                                        by_cases c74 : a0_1 = 0
                                        · rw [if_pos c74] at H
                                          have c74b0 : (a0_1 == 0) = true := beq_iff_eq.mpr c74
                                          have c74b1 : (a0_1 != 0) = false := bne_eq_false_iff_eq.mpr c74
                                          clear c74
                                          obtain rfl := Option.some.inj H
                                          have hcz75_0 : wc.cell? ⟨gb139, 0, none⟩ = some (.int .u8 a0_0) := (blk_cell BK139.out 0).trans rfl
                                          have hcz75_1 : wc.cell? ⟨gb139, 1, none⟩ = some (.int .i64 a0_1) := (blk_cell BK139.out 1).trans rfl
                                          have hcz75_2 : wc.cell? ⟨gb139, 2, none⟩ = some (.int .i64 a0_2) := (blk_cell BK139.out 2).trans rfl
                                          have hcz75_3 : wc.cell? ⟨gb139, 3, none⟩ = some (.int .u8 a0_3) := (blk_cell BK139.out 3).trans rfl
                                          have hcz75_4 : wc.cell? ⟨gb139, 4, none⟩ = some (.int .i64 a0_4) := (blk_cell BK139.out 4).trans rfl
                                          have hfz75_0 := blk_frozen BK139.out 0
                                          have hfz75_1 := blk_frozen BK139.out 1
                                          have hfz75_2 := blk_frozen BK139.out 2
                                          have hfz75_3 := blk_frozen BK139.out 3
                                          have hfz75_4 := blk_frozen BK139.out 4
                                          go_wp2_with ((((with_reducible refine gate_callee (f := 17) rfl ?_); refine goesL_ (some 87) rfl rfl Try.func17 (by kernel_rfl) rfl #[.agg #[.int .u8 a0_0, .int .i64 a0_1, .int .i64 a0_2, .int .u8 a0_3, .int .i64 a0_4]] rfl (by (try simp only [List.map_toArray, List.map_cons, List.map_nil]); (rfl)) ?_; (with_reducible refine (topo_turned.calls a0_0 a0_1 a0_2 a0_3 a0_4 t140 _ A60.out).mono ?_); rintro e w76 ⟨rfl, hb⟩; refine ⟨_, rfl, ?_⟩; replace BK139 := Aside0.mk (blk_below BK139.out hb); replace HB := Aside0.mk (below_step HB.out hb); (try clear hb); have hcz77_0 : w76.cell? ⟨gb139, 0, none⟩ = some (.int .u8 a0_0) := (blk_cell BK139.out 0).trans rfl; have hcz77_1 : w76.cell? ⟨gb139, 1, none⟩ = some (.int .i64 a0_1) := (blk_cell BK139.out 1).trans rfl; have hcz77_2 : w76.cell? ⟨gb139, 2, none⟩ = some (.int .i64 a0_2) := (blk_cell BK139.out 2).trans rfl; have hcz77_3 : w76.cell? ⟨gb139, 3, none⟩ = some (.int .u8 a0_3) := (blk_cell BK139.out 3).trans rfl; have hcz77_4 : w76.cell? ⟨gb139, 4, none⟩ = some (.int .i64 a0_4) := (blk_cell BK139.out 4).trans rfl; have hfz77_0 := blk_frozen BK139.out 0; have hfz77_1 := blk_frozen BK139.out 1; have hfz77_2 := blk_frozen BK139.out 2; have hfz77_3 := blk_frozen BK139.out 3; have hfz77_4 := blk_frozen BK139.out 4)))
                                          go_ret
                                          exact ⟨by (rfl), by repeat (with_reducible (exact HB.out))⟩
                                        · rw [if_neg c74] at H
                                          have c74b0 : (a0_1 == 0) = false := beq_eq_false_iff_ne.mpr c74
                                          have c74b1 : (a0_1 != 0) = true := bne_iff_ne.mpr c74
                                          by_cases c78 : a0_2 = 0
                                          · rw [if_pos c78] at H
                                            have c78b0 : (a0_2 == 0) = true := beq_iff_eq.mpr c78
                                            have c78b1 : (a0_2 != 0) = false := bne_eq_false_iff_eq.mpr c78
                                            clear c78
                                            obtain rfl := Option.some.inj H
                                            have hcz79_0 : wc.cell? ⟨gb139, 0, none⟩ = some (.int .u8 a0_0) := (blk_cell BK139.out 0).trans rfl
                                            have hcz79_1 : wc.cell? ⟨gb139, 1, none⟩ = some (.int .i64 a0_1) := (blk_cell BK139.out 1).trans rfl
                                            have hcz79_2 : wc.cell? ⟨gb139, 2, none⟩ = some (.int .i64 a0_2) := (blk_cell BK139.out 2).trans rfl
                                            have hcz79_3 : wc.cell? ⟨gb139, 3, none⟩ = some (.int .u8 a0_3) := (blk_cell BK139.out 3).trans rfl
                                            have hcz79_4 : wc.cell? ⟨gb139, 4, none⟩ = some (.int .i64 a0_4) := (blk_cell BK139.out 4).trans rfl
                                            have hfz79_0 := blk_frozen BK139.out 0
                                            have hfz79_1 := blk_frozen BK139.out 1
                                            have hfz79_2 := blk_frozen BK139.out 2
                                            have hfz79_3 := blk_frozen BK139.out 3
                                            have hfz79_4 := blk_frozen BK139.out 4
                                            go_wp2_with ((((with_reducible refine gate_callee (f := 17) rfl ?_); refine goesL_ (some 87) rfl rfl Try.func17 (by kernel_rfl) rfl #[.agg #[.int .u8 a0_0, .int .i64 a0_1, .int .i64 a0_2, .int .u8 a0_3, .int .i64 a0_4]] rfl (by (try simp only [List.map_toArray, List.map_cons, List.map_nil]); (rfl)) ?_; (with_reducible refine (topo_turned.calls a0_0 a0_1 a0_2 a0_3 a0_4 t140 _ A60.out).mono ?_); rintro e w80 ⟨rfl, hb⟩; refine ⟨_, rfl, ?_⟩; replace BK139 := Aside0.mk (blk_below BK139.out hb); replace HB := Aside0.mk (below_step HB.out hb); (try clear hb); have hcz81_0 : w80.cell? ⟨gb139, 0, none⟩ = some (.int .u8 a0_0) := (blk_cell BK139.out 0).trans rfl; have hcz81_1 : w80.cell? ⟨gb139, 1, none⟩ = some (.int .i64 a0_1) := (blk_cell BK139.out 1).trans rfl; have hcz81_2 : w80.cell? ⟨gb139, 2, none⟩ = some (.int .i64 a0_2) := (blk_cell BK139.out 2).trans rfl; have hcz81_3 : w80.cell? ⟨gb139, 3, none⟩ = some (.int .u8 a0_3) := (blk_cell BK139.out 3).trans rfl; have hcz81_4 : w80.cell? ⟨gb139, 4, none⟩ = some (.int .i64 a0_4) := (blk_cell BK139.out 4).trans rfl; have hfz81_0 := blk_frozen BK139.out 0; have hfz81_1 := blk_frozen BK139.out 1; have hfz81_2 := blk_frozen BK139.out 2; have hfz81_3 := blk_frozen BK139.out 3; have hfz81_4 := blk_frozen BK139.out 4)))
                                            go_ret
                                            exact ⟨by (rfl), by repeat (with_reducible (exact HB.out))⟩
                                          · rw [if_neg c78] at H
                                            have c78b0 : (a0_2 == 0) = false := beq_eq_false_iff_ne.mpr c78
                                            have c78b1 : (a0_2 != 0) = true := bne_iff_ne.mpr c78
                                            obtain rfl := Option.some.inj H
                                            have hcz82_0 : wc.cell? ⟨gb139, 0, none⟩ = some (.int .u8 a0_0) := (blk_cell BK139.out 0).trans rfl
                                            have hcz82_1 : wc.cell? ⟨gb139, 1, none⟩ = some (.int .i64 a0_1) := (blk_cell BK139.out 1).trans rfl
                                            have hcz82_2 : wc.cell? ⟨gb139, 2, none⟩ = some (.int .i64 a0_2) := (blk_cell BK139.out 2).trans rfl
                                            have hcz82_3 : wc.cell? ⟨gb139, 3, none⟩ = some (.int .u8 a0_3) := (blk_cell BK139.out 3).trans rfl
                                            have hcz82_4 : wc.cell? ⟨gb139, 4, none⟩ = some (.int .i64 a0_4) := (blk_cell BK139.out 4).trans rfl
                                            have hfz82_0 := blk_frozen BK139.out 0
                                            have hfz82_1 := blk_frozen BK139.out 1
                                            have hfz82_2 := blk_frozen BK139.out 2
                                            have hfz82_3 := blk_frozen BK139.out 3
                                            have hfz82_4 := blk_frozen BK139.out 4
                                            go_wp2_with ((((with_reducible refine gate_callee (f := 17) rfl ?_); refine goesL_ (some 87) rfl rfl Try.func17 (by kernel_rfl) rfl #[.agg #[.int .u8 a0_0, .int .i64 a0_1, .int .i64 a0_2, .int .u8 a0_3, .int .i64 a0_4]] rfl (by (try simp only [List.map_toArray, List.map_cons, List.map_nil]); (rfl)) ?_; (with_reducible refine (topo_turned.calls a0_0 a0_1 a0_2 a0_3 a0_4 t140 _ A60.out).mono ?_); rintro e w83 ⟨rfl, hb⟩; refine ⟨_, rfl, ?_⟩; replace BK139 := Aside0.mk (blk_below BK139.out hb); replace HB := Aside0.mk (below_step HB.out hb); (try clear hb); have hcz84_0 : w83.cell? ⟨gb139, 0, none⟩ = some (.int .u8 a0_0) := (blk_cell BK139.out 0).trans rfl; have hcz84_1 : w83.cell? ⟨gb139, 1, none⟩ = some (.int .i64 a0_1) := (blk_cell BK139.out 1).trans rfl; have hcz84_2 : w83.cell? ⟨gb139, 2, none⟩ = some (.int .i64 a0_2) := (blk_cell BK139.out 2).trans rfl; have hcz84_3 : w83.cell? ⟨gb139, 3, none⟩ = some (.int .u8 a0_3) := (blk_cell BK139.out 3).trans rfl; have hcz84_4 : w83.cell? ⟨gb139, 4, none⟩ = some (.int .i64 a0_4) := (blk_cell BK139.out 4).trans rfl; have hfz84_0 := blk_frozen BK139.out 0; have hfz84_1 := blk_frozen BK139.out 1; have hfz84_2 := blk_frozen BK139.out 2; have hfz84_3 := blk_frozen BK139.out 3; have hfz84_4 := blk_frozen BK139.out 4)))
                                            go_ret
                                            exact ⟨by (rfl), by repeat (with_reducible (exact HB.out))⟩
                                    · rw [if_neg c69] at H
                                      have c69b0 : (a0_0 == 2) = false := beq_eq_false_iff_ne.mpr c69
                                      have c69b1 : (a0_0 != 2) = true := bne_iff_ne.mpr c69
                                      obtain rfl := Option.some.inj H
                                      have hcz85_0 : wc.cell? ⟨gb139, 0, none⟩ = some (.int .u8 a0_0) := (blk_cell BK139.out 0).trans rfl
                                      have hcz85_1 : wc.cell? ⟨gb139, 1, none⟩ = some (.int .i64 a0_1) := (blk_cell BK139.out 1).trans rfl
                                      have hcz85_2 : wc.cell? ⟨gb139, 2, none⟩ = some (.int .i64 a0_2) := (blk_cell BK139.out 2).trans rfl
                                      have hcz85_3 : wc.cell? ⟨gb139, 3, none⟩ = some (.int .u8 a0_3) := (blk_cell BK139.out 3).trans rfl
                                      have hcz85_4 : wc.cell? ⟨gb139, 4, none⟩ = some (.int .i64 a0_4) := (blk_cell BK139.out 4).trans rfl
                                      have hfz85_0 := blk_frozen BK139.out 0
                                      have hfz85_1 := blk_frozen BK139.out 1
                                      have hfz85_2 := blk_frozen BK139.out 2
                                      have hfz85_3 := blk_frozen BK139.out 3
                                      have hfz85_4 := blk_frozen BK139.out 4
                                      go_wp2_with ((((with_reducible refine gate_callee (f := 17) rfl ?_); refine goesL_ (some 87) rfl rfl Try.func17 (by kernel_rfl) rfl #[.agg #[.int .u8 a0_0, .int .i64 a0_1, .int .i64 a0_2, .int .u8 a0_3, .int .i64 a0_4]] rfl (by (try simp only [List.map_toArray, List.map_cons, List.map_nil]); (rfl)) ?_; (with_reducible refine (topo_turned.calls a0_0 a0_1 a0_2 a0_3 a0_4 t140 _ A60.out).mono ?_); rintro e w86 ⟨rfl, hb⟩; refine ⟨_, rfl, ?_⟩; replace BK139 := Aside0.mk (blk_below BK139.out hb); replace HB := Aside0.mk (below_step HB.out hb); (try clear hb); have hcz87_0 : w86.cell? ⟨gb139, 0, none⟩ = some (.int .u8 a0_0) := (blk_cell BK139.out 0).trans rfl; have hcz87_1 : w86.cell? ⟨gb139, 1, none⟩ = some (.int .i64 a0_1) := (blk_cell BK139.out 1).trans rfl; have hcz87_2 : w86.cell? ⟨gb139, 2, none⟩ = some (.int .i64 a0_2) := (blk_cell BK139.out 2).trans rfl; have hcz87_3 : w86.cell? ⟨gb139, 3, none⟩ = some (.int .u8 a0_3) := (blk_cell BK139.out 3).trans rfl; have hcz87_4 : w86.cell? ⟨gb139, 4, none⟩ = some (.int .i64 a0_4) := (blk_cell BK139.out 4).trans rfl; have hfz87_0 := blk_frozen BK139.out 0; have hfz87_1 := blk_frozen BK139.out 1; have hfz87_2 := blk_frozen BK139.out 2; have hfz87_3 := blk_frozen BK139.out 3; have hfz87_4 := blk_frozen BK139.out 4)))
                                      go_ret
                                      exact ⟨by (rfl), by repeat (with_reducible (exact HB.out))⟩

end Go.Proofs.Ytfgoplgdhnjkdaa.Be
