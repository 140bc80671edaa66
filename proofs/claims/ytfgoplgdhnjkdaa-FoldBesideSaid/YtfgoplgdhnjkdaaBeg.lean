/- iso.turns gives the four quarter turns; iso.quarter finds a number among them. -/
import Derived.Test.YtfgoplgdhnjkdaaBe0
import Derived.Test.YtfgoplgdhnjkdaaXWords
import Derived.WalkKit
import Derived.Laws.EntriesVeiled
namespace Go.Proofs.Ytfgoplgdhnjkdaa.Be
open Go.RowKit Go.Proofs.YtfgoplgdhnjkdaaW.PrintWords Go.Proofs.YtfgoplgdhnjkdaaW.PrintLast Go.Proofs.YtfgoplgdhnjkdaaW.XWords
attribute [local go_sem high] binOp_cEq binOp_cNe
attribute [local go_sem] run_store_f64 run_store_c128
set_option linter.unusedVariables false
set_option maxHeartbeats 8000000 in
set_option maxRecDepth 100000 in
theorem iso_turns.calls (w : World) : Calls Try.prog 46 #[] w fun e w' => e = .returned (.agg #[.complex .f64 4607182418800017408 0, .complex .f64 0 4607182418800017408, .complex .f64 13830554455654793216 0, .complex .f64 0 13830554455654793216]) ∧ Below w.heap.size w w' := by
  have HB := Aside0.mk (Below.refl w.heap.size w)
  go_enter Try.func46, Try.ntmps46
  go_wp2
  refine bodyPost_ret (results_cell_row rfl _ _ w.heap.size 84 #[.complex .f64 4607182418800017408 0, .complex .f64 0 4607182418800017408, .complex .f64 13830554455654793216 0, .complex .f64 0 13830554455654793216] (0, 0) _ rfl ?hg Try.underlying84 rfl (by kernel_rfl)) rfl ?_
  case hg => unfold World.alloc; exact Array.getElem?_push_size
  exact ⟨rfl, below_alloc HB.out _⟩
theorem turns_at0 (W : World) : Sem.run Try.prog (Instr.index 84 (.agg #[.complex .f64 4607182418800017408 0, .complex .f64 0 4607182418800017408, .complex .f64 13830554455654793216 0, .complex .f64 0 13830554455654793216]) (.int .i64 0)) W = .ok (.complex .f64 4607182418800017408 0) W := by first | rfl | kernel_rfl
theorem turns_at1 (W : World) : Sem.run Try.prog (Instr.index 84 (.agg #[.complex .f64 4607182418800017408 0, .complex .f64 0 4607182418800017408, .complex .f64 13830554455654793216 0, .complex .f64 0 13830554455654793216]) (.int .i64 1)) W = .ok (.complex .f64 0 4607182418800017408) W := by first | rfl | kernel_rfl
theorem turns_at2 (W : World) : Sem.run Try.prog (Instr.index 84 (.agg #[.complex .f64 4607182418800017408 0, .complex .f64 0 4607182418800017408, .complex .f64 13830554455654793216 0, .complex .f64 0 13830554455654793216]) (.int .i64 2)) W = .ok (.complex .f64 13830554455654793216 0) W := by first | rfl | kernel_rfl
theorem turns_at3 (W : World) : Sem.run Try.prog (Instr.index 84 (.agg #[.complex .f64 4607182418800017408 0, .complex .f64 0 4607182418800017408, .complex .f64 13830554455654793216 0, .complex .f64 0 13830554455654793216]) (.int .i64 3)) W = .ok (.complex .f64 0 13830554455654793216) W := by first | rfl | kernel_rfl
attribute [local go_sem] turns_at0 turns_at1 turns_at2 turns_at3
def iso_quarter.f (a0 : Nat × Nat) : Option (Int × Bool) := if cEqB 4607182418800017408 0 a0.1 a0.2 = true then some (0, true) else if cEqB 0 4607182418800017408 a0.1 a0.2 = true then some (1, true) else if cEqB 13830554455654793216 0 a0.1 a0.2 = true then some (2, true) else if cEqB 0 13830554455654793216 a0.1 a0.2 = true then some (3, true) else some (0, false)
set_option maxHeartbeats 8000000 in
set_option maxRecDepth 100000 in
theorem iso_quarter.calls (a0 : Nat × Nat) (r1 : Int) (r2 : Bool) (w : World) (h : iso_quarter.f a0 = some (r1, r2)) : Calls Try.prog 40 #[.complex .f64 a0.1 a0.2] w fun e w' => e = .returned (.tuple #[.int .i64 r1, .bool r2]) ∧ Below w.heap.size w w' := by
  have HB := Aside0.mk (Below.refl w.heap.size w)
  obtain ⟨x, y⟩ := a0
  unfold iso_quarter.f at h
  dsimp only at h ⊢
  by_cases c0 : cEqB 4607182418800017408 0 x y = true
  · rw [if_pos c0] at h
    simp only [Option.some.injEq, Prod.mk.injEq] at h
    obtain ⟨rfl, rfl⟩ := h
    go_enter Try.func40, Try.ntmps40
    go_wp2_with (go_at_call 46; (with_reducible refine (iso_turns.calls _).mono ?_); rintro e w' ⟨rfl, hb⟩; have n0_ := Aside0.mk (below_step (by repeat (first | (with_reducible first | exact HB.out | apply below_alloc | apply pw_below_drewN | apply below_drew1) | exact HB.out)) hb); clear HB; have HB := n0_; clear n0_ hb)
    refine wp_loop_rounds 1 ?_
    rw [rounds_succ]
    go_wp2
    go_ret2
    exact ⟨rfl, by repeat (first | (with_reducible first | exact HB.out | apply below_alloc | apply pw_below_drewN | apply below_drew1) | exact HB.out)⟩
  rw [if_neg c0] at h
  replace c0 := Bool.eq_false_iff.mpr c0
  by_cases c1 : cEqB 0 4607182418800017408 x y = true
  · rw [if_pos c1] at h
    simp only [Option.some.injEq, Prod.mk.injEq] at h
    obtain ⟨rfl, rfl⟩ := h
    go_enter Try.func40, Try.ntmps40
    go_wp2_with (go_at_call 46; (with_reducible refine (iso_turns.calls _).mono ?_); rintro e w' ⟨rfl, hb⟩; have n0_ := Aside0.mk (below_step (by repeat (first | (with_reducible first | exact HB.out | apply below_alloc | apply pw_below_drewN | apply below_drew1) | exact HB.out)) hb); clear HB; have HB := n0_; clear n0_ hb)
    refine wp_loop_rounds 2 ?_
    rw [rounds_succ]
    go_wp2
    rw [rounds_succ]
    go_wp2
    go_ret2
    exact ⟨rfl, by repeat (first | (with_reducible first | exact HB.out | apply below_alloc | apply pw_below_drewN | apply below_drew1) | exact HB.out)⟩
  rw [if_neg c1] at h
  replace c1 := Bool.eq_false_iff.mpr c1
  by_cases c2 : cEqB 13830554455654793216 0 x y = true
  · rw [if_pos c2] at h
    simp only [Option.some.injEq, Prod.mk.injEq] at h
    obtain ⟨rfl, rfl⟩ := h
    go_enter Try.func40, Try.ntmps40
    go_wp2_with (go_at_call 46; (with_reducible refine (iso_turns.calls _).mono ?_); rintro e w' ⟨rfl, hb⟩; have n0_ := Aside0.mk (below_step (by repeat (first | (with_reducible first | exact HB.out | apply below_alloc | apply pw_below_drewN | apply below_drew1) | exact HB.out)) hb); clear HB; have HB := n0_; clear n0_ hb)
    refine wp_loop_rounds 3 ?_
    rw [rounds_succ]
    go_wp2
    rw [rounds_succ]
    go_wp2
    rw [rounds_succ]
    go_wp2
    go_ret2
    exact ⟨rfl, by repeat (first | (with_reducible first | exact HB.out | apply below_alloc | apply pw_below_drewN | apply below_drew1) | exact HB.out)⟩
  rw [if_neg c2] at h
  replace c2 := Bool.eq_false_iff.mpr c2
  by_cases c3 : cEqB 0 13830554455654793216 x y = true
  · rw [if_pos c3] at h
    simp only [Option.some.injEq, Prod.mk.injEq] at h
    obtain ⟨rfl, rfl⟩ := h
    go_enter Try.func40, Try.ntmps40
    go_wp2_with (go_at_call 46; (with_reducible refine (iso_turns.calls _).mono ?_); rintro e w' ⟨rfl, hb⟩; have n0_ := Aside0.mk (below_step (by repeat (first | (with_reducible first | exact HB.out | apply below_alloc | apply pw_below_drewN | apply below_drew1) | exact HB.out)) hb); clear HB; have HB := n0_; clear n0_ hb)
    refine wp_loop_rounds 4 ?_
    rw [rounds_succ]
    go_wp2
    rw [rounds_succ]
    go_wp2
    rw [rounds_succ]
    go_wp2
    rw [rounds_succ]
    go_wp2
    go_ret2
    exact ⟨rfl, by repeat (first | (with_reducible first | exact HB.out | apply below_alloc | apply pw_below_drewN | apply below_drew1) | exact HB.out)⟩
  rw [if_neg c3] at h
  replace c3 := Bool.eq_false_iff.mpr c3
  simp only [Option.some.injEq, Prod.mk.injEq] at h
  obtain ⟨rfl, rfl⟩ := h
  go_enter Try.func40, Try.ntmps40
  go_wp2_with (go_at_call 46; (with_reducible refine (iso_turns.calls _).mono ?_); rintro e w' ⟨rfl, hb⟩; have n0_ := Aside0.mk (below_step (by repeat (first | (with_reducible first | exact HB.out | apply below_alloc | apply pw_below_drewN | apply below_drew1) | exact HB.out)) hb); clear HB; have HB := n0_; clear n0_ hb)
  refine wp_loop_rounds 5 ?_
  rw [rounds_succ]
  go_wp2
  rw [rounds_succ]
  go_wp2
  rw [rounds_succ]
  go_wp2
  rw [rounds_succ]
  go_wp2
  rw [rounds_succ]
  go_wp2
  go_ret2
  exact ⟨rfl, by repeat (first | (with_reducible first | exact HB.out | apply below_alloc | apply pw_below_drewN | apply below_drew1) | exact HB.out)⟩
end Go.Proofs.Ytfgoplgdhnjkdaa.Be
