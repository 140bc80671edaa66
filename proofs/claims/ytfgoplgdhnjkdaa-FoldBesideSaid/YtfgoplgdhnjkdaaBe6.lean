/- The machine's side of Go functions of this seat: for each a Lean function and a proof that the call comes to what it says. Written by a program of this session (wip/xp) for this claim. -/
import Derived.Test.YtfgoplgdhnjkdaaBe0
import Derived.Test.YtfgoplgdhnjkdaaBe3
import Derived.Test.YtfgoplgdhnjkdaaBe5
import Derived.Test.YtfgoplgdhnjkdaaBew
namespace Go.Proofs.Ytfgoplgdhnjkdaa.Be
open Go.RowKit Go.Proofs.YtfgoplgdhnjkdaaW.PrintWords Go.Proofs.YtfgoplgdhnjkdaaW.PrintLast Go.Proofs.YtfgoplgdhnjkdaaW.PrintMore
attribute [local go_sem] max2_int min2_int max_two min_two max_three min_three max_four min_four   -- for this text's walks alone
open Go.Proofs.YtfgoplgdhnjkdaaW.XWords
attribute [local go_sem high] binOp_fEq binOp_fNe binOp_fLt binOp_fLe binOp_fGt binOp_fGe binOp_cEq binOp_cNe unOp_fNeg unOp_cNeg equalIn_f64 equalIn_c128
attribute [local go_sem] run_real run_imag run_complex run_store_f64 run_store_c128 run_store_fn
set_option linter.unusedVariables false
set_option linter.unusedSimpArgs false

/-! ### fold_Ring: function 8 -/
def fold_Ring.j0 : Nat → Int → Int → Bool → Int → Int → Int → Int → Int → Int → Int → Option (Int × Int × Bool × Int)
  | 0, _, _, _, _, _, _, _, _, _, _ => none
  | k + 1, x9, x10, x62, x172000, x172001, x172002, x172003, x172004, x172005, x172006 => if x62 = true then (some (0, 0, false, 60)) else ((fold_way.f x172000).bind fun t174 => ((fold_dyn.f k t174 x172000 x172001 x172002 x172003 x172004 x172005 x172006 x9 x10).bind fun bt175 => (if bt175.2.2 = true then ((fold_grid_place.f x172000 x172001 x172002 x172003 x172004 x172005 x172006 bt175.1 bt175.2.1).bind fun bt178 => (some (bt178.1, bt178.2, true, 0))) else (some (0, 0, false, 0)))))
def fold_Ring.f (k : Nat) (a0_0 : Int) (a0_1 : Int) (a0_2 : Int) (a0_3 : Int) (a0_4 : Int) (a1_0 : Int) (a1_1 : Int) : Option (Int × Int × Bool × Int) := (fold_of.f k a0_0 a0_1 a0_2 a0_3 a0_4 (([(⟨a1_0, a1_1⟩ : S33)] : List (S33)))).bind fun bt163 => (if bt163.2.2.2.2.2.2.2 = 0 then ((fold_grid_home.f bt163.1 bt163.2.1 bt163.2.2.1 bt163.2.2.2.1 bt163.2.2.2.2.1 bt163.2.2.2.2.2.1 bt163.2.2.2.2.2.2.1 a1_0 a1_1).bind fun bt172 => (if bt163.2.1 > 0 then (if bt172.1 < (-1) then (fold_Ring.j0 k bt172.1 bt172.2 true bt163.1 bt163.2.1 bt163.2.2.1 bt163.2.2.2.1 bt163.2.2.2.2.1 bt163.2.2.2.2.2.1 bt163.2.2.2.2.2.2.1) else (if bt172.1 > bt163.2.1 then (fold_Ring.j0 k bt172.1 bt172.2 true bt163.1 bt163.2.1 bt163.2.2.1 bt163.2.2.2.1 bt163.2.2.2.2.1 bt163.2.2.2.2.2.1 bt163.2.2.2.2.2.2.1) else (if bt163.2.2.1 > 0 then (if bt172.2 < (-1) then (fold_Ring.j0 k bt172.1 bt172.2 true bt163.1 bt163.2.1 bt163.2.2.1 bt163.2.2.2.1 bt163.2.2.2.2.1 bt163.2.2.2.2.2.1 bt163.2.2.2.2.2.2.1) else (fold_Ring.j0 k bt172.1 bt172.2 (decide (bt172.2 > bt163.2.2.1)) bt163.1 bt163.2.1 bt163.2.2.1 bt163.2.2.2.1 bt163.2.2.2.2.1 bt163.2.2.2.2.2.1 bt163.2.2.2.2.2.2.1)) else (fold_Ring.j0 k bt172.1 bt172.2 false bt163.1 bt163.2.1 bt163.2.2.1 bt163.2.2.2.1 bt163.2.2.2.2.1 bt163.2.2.2.2.2.1 bt163.2.2.2.2.2.2.1)))) else (if bt163.2.2.1 > 0 then (if bt172.2 < (-1) then (fold_Ring.j0 k bt172.1 bt172.2 true bt163.1 bt163.2.1 bt163.2.2.1 bt163.2.2.2.1 bt163.2.2.2.2.1 bt163.2.2.2.2.2.1 bt163.2.2.2.2.2.2.1) else (fold_Ring.j0 k bt172.1 bt172.2 (decide (bt172.2 > bt163.2.2.1)) bt163.1 bt163.2.1 bt163.2.2.1 bt163.2.2.2.1 bt163.2.2.2.2.1 bt163.2.2.2.2.2.1 bt163.2.2.2.2.2.2.1)) else (fold_Ring.j0 k bt172.1 bt172.2 false bt163.1 bt163.2.1 bt163.2.2.1 bt163.2.2.2.1 bt163.2.2.2.2.1 bt163.2.2.2.2.2.1 bt163.2.2.2.2.2.2.1)))) else (some (0, 0, false, bt163.2.2.2.2.2.2.2)))
theorem fold_Ring.mono_l : ∀ k, (∀ y0 y1 y2 y3 y4 y5 y6 y7 y8 y9, LeO (fold_Ring.j0 k y0 y1 y2 y3 y4 y5 y6 y7 y8 y9) (fold_Ring.j0 (k + 1) y0 y1 y2 y3 y4 y5 y6 y7 y8 y9))
  | 0 => fun _ _ _ _ _ _ _ _ _ _ r h => by simp [fold_Ring.j0] at h
  | k + 1 => by
    have ih0 := fold_Ring.mono_l k
    · intro y0 y1 y2 y3 y4 y5 y6 y7 y8 y9
      unfold fold_Ring.j0
      repeat' first
      | (with_reducible exact fold_dyn.mono _ _ _ _ _ _ _ _ _ _ _)
      | (with_reducible exact LeO.refl _)
      | (with_reducible refine LeO.ite ?_ ?_)
      | (with_reducible refine LeO.bind ?_ (fun _ => ?_))
theorem fold_Ring.mono : ∀ a0 a1 a2 a3 a4 a5 a6 k, LeO (fold_Ring.f k a0 a1 a2 a3 a4 a5 a6) (fold_Ring.f (k + 1) a0 a1 a2 a3 a4 a5 a6) := by
  intro a0 a1 a2 a3 a4 a5 a6 k
  have ih0 := fold_Ring.mono_l k
  unfold fold_Ring.f
  repeat' first
      | (with_reducible exact ih0 _ _ _ _ _ _ _ _ _ _)
      | (with_reducible exact fold_of.mono _ _ _ _ _ _ _)
      | (with_reducible exact LeO.refl _)
      | (with_reducible refine LeO.ite ?_ ?_)
      | (with_reducible refine LeO.bind ?_ (fun _ => ?_))
def fold_Ring.T7 : Bool × List (List Nat × List Nat) := (true, [([], []), ([0], [0]), ([1], [1]), ([2], [2]), ([], []), ([], []), ([], []), ([3, 4, 5, 6, 3], [3, 4, 5, 6]), ([7], [7]), ([8], [8]), ([8], [8]), ([8], [8]), ([9, 7, 0, 1, 2, 3, 4, 5, 6, 7, 8, 9], [9]), ([10, 12, 0, 1, 2, 3, 4, 5, 6, 7, 8, 9, 10, 12], [10]), ([11, 13, 0, 1, 2, 3, 4, 5, 6, 7, 8, 9, 10, 11, 12, 13], [11])])
def fold_Ring.B7 : List Nat := [0, 1, 3, 7, 0, 0, 0, 127, 255, 511, 511, 511, 1023, 6143, 16383]
theorem fold_Ring.tab7 : rtab .any (opsOf Try.f8 7) = fold_Ring.T7 := by kernel_rfl
theorem fold_Ring.bits7 : waitsOk fold_Ring.T7.2 fold_Ring.B7 = true := by kernel_rfl
set_option maxHeartbeats 8000000 in
set_option maxRecDepth 100000 in
theorem fold_Ring.calls (k : Nat) (a0_0 : Int) (a0_1 : Int) (a0_2 : Int) (a0_3 : Int) (a0_4 : Int) (a1_0 : Int) (a1_1 : Int) (r1 : Int) (r2 : Int) (r3 : Bool) (r4 : Int) (w : World) (h : fold_Ring.f k a0_0 a0_1 a0_2 a0_3 a0_4 a1_0 a1_1 = some (r1, r2, r3, r4)) :
    Calls Try.prog 8 #[.agg #[.int .u8 a0_0, .int .i64 a0_1, .int .i64 a0_2, .int .u8 a0_3, .int .i64 a0_4], .agg #[.int .i64 a1_0, .int .i64 a1_1]] w fun e w' => e = .returned (.tuple #[.agg #[.int .i64 r1, .int .i64 r2], .bool r3, .int .i64 r4]) ∧ Below w.heap.size w w' := by
  have hu23 := Try.underlying23
  have hu33 := Try.underlying33
  have hu56 := Try.underlying56
  have HB := Aside0.mk (Below.refl w.heap.size w)
  have H : ((fold_of.f k a0_0 a0_1 a0_2 a0_3 a0_4 ([(⟨a1_0, a1_1⟩ : S33)] : List (S33))).bind fun bt163 => (if bt163.2.2.2.2.2.2.2 = 0 then ((fold_grid_home.f bt163.1 bt163.2.1 bt163.2.2.1 bt163.2.2.2.1 bt163.2.2.2.2.1 bt163.2.2.2.2.2.1 bt163.2.2.2.2.2.2.1 a1_0 a1_1).bind fun bt172 => (if bt163.2.1 > 0 then (if bt172.1 < (-1) then (fold_Ring.j0 k bt172.1 bt172.2 true bt163.1 bt163.2.1 bt163.2.2.1 bt163.2.2.2.1 bt163.2.2.2.2.1 bt163.2.2.2.2.2.1 bt163.2.2.2.2.2.2.1) else (if bt172.1 > bt163.2.1 then (fold_Ring.j0 k bt172.1 bt172.2 true bt163.1 bt163.2.1 bt163.2.2.1 bt163.2.2.2.1 bt163.2.2.2.2.1 bt163.2.2.2.2.2.1 bt163.2.2.2.2.2.2.1) else (if bt163.2.2.1 > 0 then (if bt172.2 < (-1) then (fold_Ring.j0 k bt172.1 bt172.2 true bt163.1 bt163.2.1 bt163.2.2.1 bt163.2.2.2.1 bt163.2.2.2.2.1 bt163.2.2.2.2.2.1 bt163.2.2.2.2.2.2.1) else (fold_Ring.j0 k bt172.1 bt172.2 (decide (bt172.2 > bt163.2.2.1)) bt163.1 bt163.2.1 bt163.2.2.1 bt163.2.2.2.1 bt163.2.2.2.2.1 bt163.2.2.2.2.2.1 bt163.2.2.2.2.2.2.1)) else (fold_Ring.j0 k bt172.1 bt172.2 false bt163.1 bt163.2.1 bt163.2.2.1 bt163.2.2.2.1 bt163.2.2.2.2.1 bt163.2.2.2.2.2.1 bt163.2.2.2.2.2.2.1)))) else (if bt163.2.2.1 > 0 then (if bt172.2 < (-1) then (fold_Ring.j0 k bt172.1 bt172.2 true bt163.1 bt163.2.1 bt163.2.2.1 bt163.2.2.2.1 bt163.2.2.2.2.1 bt163.2.2.2.2.2.1 bt163.2.2.2.2.2.2.1) else (fold_Ring.j0 k bt172.1 bt172.2 (decide (bt172.2 > bt163.2.2.1)) bt163.1 bt163.2.1 bt163.2.2.1 bt163.2.2.2.1 bt163.2.2.2.2.1 bt163.2.2.2.2.2.1 bt163.2.2.2.2.2.2.1)) else (fold_Ring.j0 k bt172.1 bt172.2 false bt163.1 bt163.2.1 bt163.2.2.1 bt163.2.2.2.1 bt163.2.2.2.2.1 bt163.2.2.2.2.2.1 bt163.2.2.2.2.2.2.1)))) else (some (0, 0, false, bt163.2.2.2.2.2.2.2)))) = some (r1, r2, r3, r4) := h
  clear h
  obtain ⟨y160, hy160⟩ : ∃ y_ : List (S33), y_ = ([(⟨a1_0, a1_1⟩ : S33)] : List (S33)) := ⟨_, rfl⟩
  replace H : ((fold_of.f k a0_0 a0_1 a0_2 a0_3 a0_4 y160).bind fun bt163 => (if bt163.2.2.2.2.2.2.2 = 0 then ((fold_grid_home.f bt163.1 bt163.2.1 bt163.2.2.1 bt163.2.2.2.1 bt163.2.2.2.2.1 bt163.2.2.2.2.2.1 bt163.2.2.2.2.2.2.1 a1_0 a1_1).bind fun bt172 => (if bt163.2.1 > 0 then (if bt172.1 < (-1) then (fold_Ring.j0 k bt172.1 bt172.2 true bt163.1 bt163.2.1 bt163.2.2.1 bt163.2.2.2.1 bt163.2.2.2.2.1 bt163.2.2.2.2.2.1 bt163.2.2.2.2.2.2.1) else (if bt172.1 > bt163.2.1 then (fold_Ring.j0 k bt172.1 bt172.2 true bt163.1 bt163.2.1 bt163.2.2.1 bt163.2.2.2.1 bt163.2.2.2.2.1 bt163.2.2.2.2.2.1 bt163.2.2.2.2.2.2.1) else (if bt163.2.2.1 > 0 then (if bt172.2 < (-1) then (fold_Ring.j0 k bt172.1 bt172.2 true bt163.1 bt163.2.1 bt163.2.2.1 bt163.2.2.2.1 bt163.2.2.2.2.1 bt163.2.2.2.2.2.1 bt163.2.2.2.2.2.2.1) else (fold_Ring.j0 k bt172.1 bt172.2 (decide (bt172.2 > bt163.2.2.1)) bt163.1 bt163.2.1 bt163.2.2.1 bt163.2.2.2.1 bt163.2.2.2.2.1 bt163.2.2.2.2.2.1 bt163.2.2.2.2.2.2.1)) else (fold_Ring.j0 k bt172.1 bt172.2 false bt163.1 bt163.2.1 bt163.2.2.1 bt163.2.2.2.1 bt163.2.2.2.2.1 bt163.2.2.2.2.2.1 bt163.2.2.2.2.2.2.1)))) else (if bt163.2.2.1 > 0 then (if bt172.2 < (-1) then (fold_Ring.j0 k bt172.1 bt172.2 true bt163.1 bt163.2.1 bt163.2.2.1 bt163.2.2.2.1 bt163.2.2.2.2.1 bt163.2.2.2.2.2.1 bt163.2.2.2.2.2.2.1) else (fold_Ring.j0 k bt172.1 bt172.2 (decide (bt172.2 > bt163.2.2.1)) bt163.1 bt163.2.1 bt163.2.2.1 bt163.2.2.2.1 bt163.2.2.2.2.1 bt163.2.2.2.2.2.1 bt163.2.2.2.2.2.2.1)) else (fold_Ring.j0 k bt172.1 bt172.2 false bt163.1 bt163.2.1 bt163.2.2.1 bt163.2.2.2.1 bt163.2.2.2.2.1 bt163.2.2.2.2.2.1 bt163.2.2.2.2.2.2.1)))) else (some (0, 0, false, bt163.2.2.2.2.2.2.2)))) = some (r1, r2, r3, r4) := by (rw [hy160]; with_reducible exact H)
  have Ny160 := Aside0.mk hy160
  clear hy160
  replace H := Option.bind_eq_some_iff.mp H
  obtain ⟨⟨t163, t164, t165, t166, t167, t168, t169, t170⟩, A30, H⟩ := H
  replace H : (if t170 = 0 then ((fold_grid_home.f t163 t164 t165 t166 t167 t168 t169 a1_0 a1_1).bind fun bt172 => (if t164 > 0 then (if bt172.1 < (-1) then (fold_Ring.j0 k bt172.1 bt172.2 true t163 t164 t165 t166 t167 t168 t169) else (if bt172.1 > t164 then (fold_Ring.j0 k bt172.1 bt172.2 true t163 t164 t165 t166 t167 t168 t169) else (if t165 > 0 then (if bt172.2 < (-1) then (fold_Ring.j0 k bt172.1 bt172.2 true t163 t164 t165 t166 t167 t168 t169) else (fold_Ring.j0 k bt172.1 bt172.2 (decide (bt172.2 > t165)) t163 t164 t165 t166 t167 t168 t169)) else (fold_Ring.j0 k bt172.1 bt172.2 false t163 t164 t165 t166 t167 t168 t169)))) else (if t165 > 0 then (if bt172.2 < (-1) then (fold_Ring.j0 k bt172.1 bt172.2 true t163 t164 t165 t166 t167 t168 t169) else (fold_Ring.j0 k bt172.1 bt172.2 (decide (bt172.2 > t165)) t163 t164 t165 t166 t167 t168 t169)) else (fold_Ring.j0 k bt172.1 bt172.2 false t163 t164 t165 t166 t167 t168 t169)))) else (some (0, 0, false, t170))) = some (r1, r2, r3, r4) := H
  have A3 := Aside0.mk A30
  clear A30
  by_cases c4 : t170 = 0
  · rw [if_pos c4] at H
    have c4b0 : (t170 == 0) = true := beq_iff_eq.mpr c4
    have c4b1 : (t170 != 0) = false := bne_eq_false_iff_eq.mpr c4
    clear c4
    replace H := Option.bind_eq_some_iff.mp H
    obtain ⟨⟨t172, t173⟩, A50, H⟩ := H
    replace H : (if t164 > 0 then (if t172 < (-1) then (fold_Ring.j0 k t172 t173 true t163 t164 t165 t166 t167 t168 t169) else (if t172 > t164 then (fold_Ring.j0 k t172 t173 true t163 t164 t165 t166 t167 t168 t169) else (if t165 > 0 then (if t173 < (-1) then (fold_Ring.j0 k t172 t173 true t163 t164 t165 t166 t167 t168 t169) else (fold_Ring.j0 k t172 t173 (decide (t173 > t165)) t163 t164 t165 t166 t167 t168 t169)) else (fold_Ring.j0 k t172 t173 false t163 t164 t165 t166 t167 t168 t169)))) else (if t165 > 0 then (if t173 < (-1) then (fold_Ring.j0 k t172 t173 true t163 t164 t165 t166 t167 t168 t169) else (fold_Ring.j0 k t172 t173 (decide (t173 > t165)) t163 t164 t165 t166 t167 t168 t169)) else (fold_Ring.j0 k t172 t173 false t163 t164 t165 t166 t167 t168 t169))) = some (r1, r2, r3, r4) := H
    have A5 := Aside0.mk A50
    clear A50
    have HC6 := Aside0.mk H
    clear H
    go_enter Try.func8, Try.ntmps8
    go_upto_region 5 with (first | ((with_reducible refine gate_dst (N := 2) rfl ?_); refine box_event ?hg (N := 2) ?hd (cs := #[.int .u8 a0_0, .int .i64 a0_1, .int .i64 a0_2, .int .u8 a0_3, .int .i64 a0_4]) (t := 23) ?hr ?_; (case hd => rfl); (case hg => rfl); (case hr => (go_simp; done)); intro gb157 hg w7 hbox hb; have BK157 := Aside0.mk hbox; have GW157 := Aside0.mk ((by rw [hg]; exact (below_size HB.out) : w.heap.size ≤ gb157)); have GE157 := Aside0.mk ((by rw [hg]; exact (below_size HB.out) : w.heap.size ≤ gb157)); replace HB := Aside0.mk (below_step HB.out hb); clear hb hbox hg) | ((with_reducible refine gate_dst (N := 3) rfl ?_); refine box_event ?hg (N := 3) ?hd (cs := #[.int .i64 a1_0, .int .i64 a1_1]) (t := 33) ?hr ?_; (case hd => rfl); (case hg => rfl); (case hr => (go_simp; done)); intro gb158 hg w8 hbox hb; have BK158 := Aside0.mk hbox; have GW158 := Aside0.mk ((by rw [hg]; exact (below_size HB.out) : w.heap.size ≤ gb158)); have GE158 := Aside0.mk ((by rw [hg]; exact (below_size HB.out) : w.heap.size ≤ gb158)); have NB157_158 := Aside0.mk ((by rw [hg]; exact Nat.ne_of_lt (blk_lt BK157.out) : gb157 ≠ gb158)); have NB158_157 := Aside0.mk ((by rw [hg]; exact Nat.ne_of_gt (blk_lt BK157.out) : gb158 ≠ gb157)); replace BK157 := Aside0.mk (blk_below BK157.out hb); replace HB := Aside0.mk (below_step HB.out hb); clear hb hbox hg) | ((with_reducible refine gate_dst (N := 4) rfl ?_); refine box_event ?hg (N := 4) ?hd (cs := #[.int .i64 0, .int .i64 0]) (t := 33) ?hr ?_; (case hd => rfl); (case hg => rfl); (case hr => (go_simp; done)); intro gb159 hg w9 hbox hb; have BK159 := Aside0.mk hbox; have GW159 := Aside0.mk ((by rw [hg]; exact (below_size HB.out) : w.heap.size ≤ gb159)); have GE159 := Aside0.mk ((by rw [hg]; exact (below_size HB.out) : w.heap.size ≤ gb159)); have NB157_159 := Aside0.mk ((by rw [hg]; exact Nat.ne_of_lt (blk_lt BK157.out) : gb157 ≠ gb159)); have NB159_157 := Aside0.mk ((by rw [hg]; exact Nat.ne_of_gt (blk_lt BK157.out) : gb159 ≠ gb157)); have NB158_159 := Aside0.mk ((by rw [hg]; exact Nat.ne_of_lt (blk_lt BK158.out) : gb158 ≠ gb159)); have NB159_158 := Aside0.mk ((by rw [hg]; exact Nat.ne_of_gt (blk_lt BK158.out) : gb159 ≠ gb158)); replace BK157 := Aside0.mk (blk_below BK157.out hb); replace BK158 := Aside0.mk (blk_below BK158.out hb); replace HB := Aside0.mk (below_step HB.out hb); clear hb hbox hg; have hnb10 := NB157_158.out; have hnc10 := NB158_157.out; have hnb11 := NB157_159.out; have hnc11 := NB159_157.out; have hcz12_0 : w9.cell? ⟨gb157, 0, none⟩ = some (.int .u8 a0_0) := (blk_cell BK157.out 0).trans rfl; have hcz12_1 : w9.cell? ⟨gb157, 1, none⟩ = some (.int .i64 a0_1) := (blk_cell BK157.out 1).trans rfl; have hcz12_2 : w9.cell? ⟨gb157, 2, none⟩ = some (.int .i64 a0_2) := (blk_cell BK157.out 2).trans rfl; have hcz12_3 : w9.cell? ⟨gb157, 3, none⟩ = some (.int .u8 a0_3) := (blk_cell BK157.out 3).trans rfl; have hcz12_4 : w9.cell? ⟨gb157, 4, none⟩ = some (.int .i64 a0_4) := (blk_cell BK157.out 4).trans rfl; have hfz12_0 := blk_frozen BK157.out 0; have hfz12_1 := blk_frozen BK157.out 1; have hfz12_2 := blk_frozen BK157.out 2; have hfz12_3 := blk_frozen BK157.out 3; have hfz12_4 := blk_frozen BK157.out 4; have hnb13 := NB158_159.out; have hnc13 := NB159_158.out; have hcz14_0 : w9.cell? ⟨gb158, 0, none⟩ = some (.int .i64 a1_0) := (blk_cell BK158.out 0).trans rfl; have hcz14_1 : w9.cell? ⟨gb158, 1, none⟩ = some (.int .i64 a1_1) := (blk_cell BK158.out 1).trans rfl; have hfz14_0 := blk_frozen BK158.out 0; have hfz14_1 := blk_frozen BK158.out 1) | ((with_reducible refine gate_dst (N := 17) rfl ?_); refine Kd.R_lit k33 _ 33 ?hg (N := 17) ?hd (xs := ([(⟨a1_0, a1_1⟩ : S33)] : List (S33))) (inner := [.int .i64 a1_0, .int .i64 a1_1]) (ok := fun _ => True) (okp := fun _ => True) ?hr ?hp (fun _ hk => hk) trivial (Below.refl _ _) (Nat.le_refl _) (by simp) ?_; (case hd => rfl); (case hg => rfl); (case hr => (go_simp; done)); (case hp => exact (Reps.c2 (show Kd.M k33 _ _ _ (⟨a1_0, a1_1⟩ : S33) [.int .i64 a1_0, .int .i64 a1_1] from (k33_mkM _ _ _ (⟨a1_0, a1_1⟩ : S33) )) (Reps.none _ _))); intro v161 w15 ho16 hb hg_ hnew_; clear hg_ hnew_; (rw [← Ny160.out] at ho16); have HO162 := Aside0.mk (Kd.R_lower (Kd.R_newB (Kd.R_newB ho16 BK158.out) BK159.out) (below_size HB.out)); replace BK157 := Aside0.mk (blk_below BK157.out hb); replace BK158 := Aside0.mk (blk_below BK158.out hb); replace BK159 := Aside0.mk (blk_below BK159.out hb); replace HB := Aside0.mk (below_step HB.out hb); clear hb ho16; obtain ⟨Ao17, co17, eo17⟩ := Kd.R_slice HO162.out; subst eo17) | ((with_reducible refine gate_callee (f := 18) rfl ?_); refine goesL_ (some 18) rfl rfl Try.func18 (by kernel_rfl) rfl #[.agg #[.int .u8 a0_0, .int .i64 a0_1, .int .i64 a0_2, .int .u8 a0_3, .int .i64 a0_4], .slice Ao17 y160.length co17] rfl (by (try simp only [List.map_toArray, List.map_cons, List.map_nil]); (rfl)) ?_; (with_reducible refine (fold_of.calls k a0_0 a0_1 a0_2 a0_3 a0_4 _ _ y160 t163 t164 t165 t166 t167 t168 t169 t170 _ ?side1 ?side2 A3.out).mono ?_); (case side1 => repeat (exact (Kd.R_reads' HO162.out).2.2)); (case side2 => exact (Kd.R_reads' HO162.out).2.1); rintro e w18 ⟨rfl, hb⟩; refine ⟨_, rfl, ?_⟩; replace HO162 := Aside0.mk (Kd.R_below HO162.out hb); replace BK157 := Aside0.mk (blk_below BK157.out hb); replace BK158 := Aside0.mk (blk_below BK158.out hb); replace BK159 := Aside0.mk (blk_below BK159.out hb); replace HB := Aside0.mk (below_step HB.out hb); (try clear hb)) | ((with_reducible refine gate_dst (N := 7) rfl ?_); refine box_event ?hg (N := 7) ?hd (cs := #[.int .u8 0, .int .i64 0, .int .i64 0, .int .u8 0, .int .i64 0, .int .i64 0, .int .i64 0]) (t := 56) ?hr ?_; (case hd => rfl); (case hg => rfl); (case hr => (go_simp; done)); intro gb171 hg w19 hbox hb; have BK171 := Aside0.mk hbox; have GW171 := Aside0.mk ((by rw [hg]; exact (below_size HB.out) : w.heap.size ≤ gb171)); have GE171 := Aside0.mk ((by rw [hg]; exact (below_size HB.out) : w.heap.size ≤ gb171)); have NB157_171 := Aside0.mk ((by rw [hg]; exact Nat.ne_of_lt (blk_lt BK157.out) : gb157 ≠ gb171)); have NB171_157 := Aside0.mk ((by rw [hg]; exact Nat.ne_of_gt (blk_lt BK157.out) : gb171 ≠ gb157)); have NB158_171 := Aside0.mk ((by rw [hg]; exact Nat.ne_of_lt (blk_lt BK158.out) : gb158 ≠ gb171)); have NB171_158 := Aside0.mk ((by rw [hg]; exact Nat.ne_of_gt (blk_lt BK158.out) : gb171 ≠ gb158)); have NB159_171 := Aside0.mk ((by rw [hg]; exact Nat.ne_of_lt (blk_lt BK159.out) : gb159 ≠ gb171)); have NB171_159 := Aside0.mk ((by rw [hg]; exact Nat.ne_of_gt (blk_lt BK159.out) : gb171 ≠ gb159)); replace HO162 := Aside0.mk (Kd.R_below HO162.out hb); replace BK157 := Aside0.mk (blk_below BK157.out hb); replace BK158 := Aside0.mk (blk_below BK158.out hb); replace BK159 := Aside0.mk (blk_below BK159.out hb); replace HB := Aside0.mk (below_step HB.out hb); clear hb hbox hg; have hnb20 := NB171_157.out; have hnc20 := NB157_171.out; have hnb21 := NB171_158.out; have hnc21 := NB158_171.out; have hnb22 := NB171_159.out; have hnc22 := NB159_171.out; have hcz23_0 : w19.cell? ⟨gb171, 0, none⟩ = some (.int .u8 0) := (blk_cell BK171.out 0).trans rfl; have hcz23_1 : w19.cell? ⟨gb171, 1, none⟩ = some (.int .i64 0) := (blk_cell BK171.out 1).trans rfl; have hcz23_2 : w19.cell? ⟨gb171, 2, none⟩ = some (.int .i64 0) := (blk_cell BK171.out 2).trans rfl; have hcz23_3 : w19.cell? ⟨gb171, 3, none⟩ = some (.int .u8 0) := (blk_cell BK171.out 3).trans rfl; have hcz23_4 : w19.cell? ⟨gb171, 4, none⟩ = some (.int .i64 0) := (blk_cell BK171.out 4).trans rfl; have hcz23_5 : w19.cell? ⟨gb171, 5, none⟩ = some (.int .i64 0) := (blk_cell BK171.out 5).trans rfl; have hcz23_6 : w19.cell? ⟨gb171, 6, none⟩ = some (.int .i64 0) := (blk_cell BK171.out 6).trans rfl; have hfz23_0 := blk_frozen BK171.out 0; have hfz23_1 := blk_frozen BK171.out 1; have hfz23_2 := blk_frozen BK171.out 2; have hfz23_3 := blk_frozen BK171.out 3; have hfz23_4 := blk_frozen BK171.out 4; have hfz23_5 := blk_frozen BK171.out 5; have hfz23_6 := blk_frozen BK171.out 6; have hcz24_0 : w19.cell? ⟨gb158, 0, none⟩ = some (.int .i64 a1_0) := (blk_cell BK158.out 0).trans rfl; have hcz24_1 : w19.cell? ⟨gb158, 1, none⟩ = some (.int .i64 a1_1) := (blk_cell BK158.out 1).trans rfl; have hfz24_0 := blk_frozen BK158.out 0; have hfz24_1 := blk_frozen BK158.out 1) | ((with_reducible refine gate_callee (f := 19) rfl ?_); refine goesL_ (some 28) rfl rfl Try.func19 (by kernel_rfl) rfl #[.agg #[.int .u8 t163, .int .i64 t164, .int .i64 t165, .int .u8 t166, .int .i64 t167, .int .i64 t168, .int .i64 t169], .agg #[.int .i64 a1_0, .int .i64 a1_1]] rfl (by (try simp only [List.map_toArray, List.map_cons, List.map_nil]); (rfl)) ?_; (with_reducible refine (fold_grid_home.calls t163 t164 t165 t166 t167 t168 t169 a1_0 a1_1 t172 t173 _ A5.out).mono ?_); rintro e w25 ⟨rfl, hb⟩; refine ⟨_, rfl, ?_⟩; replace HO162 := Aside0.mk (Kd.R_below (by (with_reducible skip); exact (Kd.R_mono (Kd.R_far (p := ⟨gb171, 6, none⟩) (Kd.R_far (p := ⟨gb171, 5, none⟩) (Kd.R_far (p := ⟨gb171, 4, none⟩) (Kd.R_far (p := ⟨gb171, 3, none⟩) (Kd.R_far (p := ⟨gb171, 2, none⟩) (Kd.R_far (p := ⟨gb171, 1, none⟩) (Kd.R_far (p := ⟨gb171, 0, none⟩) (Kd.R_types HO162.out BK171.out (by decide)) (fun _ hk => hk.2) (.int .u8 t163)) (fun _ hk => hk.2) (.int .i64 t164)) (fun _ hk => hk.2) (.int .i64 t165)) (fun _ hk => hk.2) (.int .u8 t166)) (fun _ hk => hk.2) (.int .i64 t167)) (fun _ hk => hk.2) (.int .i64 t168)) (fun _ hk => hk.2) (.int .i64 t169)) (fun _ h_ => h_.1))) hb); replace BK157 := Aside0.mk (blk_below (blk_far (blk_far (blk_far (blk_far (blk_far (blk_far (blk_far BK157.out NB157_171.out _) NB157_171.out _) NB157_171.out _) NB157_171.out _) NB157_171.out _) NB157_171.out _) NB157_171.out _) hb); replace BK158 := Aside0.mk (blk_below (blk_far (blk_far (blk_far (blk_far (blk_far (blk_far (blk_far BK158.out NB158_171.out _) NB158_171.out _) NB158_171.out _) NB158_171.out _) NB158_171.out _) NB158_171.out _) NB158_171.out _) hb); replace BK159 := Aside0.mk (blk_below (blk_far (blk_far (blk_far (blk_far (blk_far (blk_far (blk_far BK159.out NB159_171.out _) NB159_171.out _) NB159_171.out _) NB159_171.out _) NB159_171.out _) NB159_171.out _) NB159_171.out _) hb); replace BK171 := Aside0.mk (blk_below (g := gb171) (o := .cells #[.int .u8 t163, .int .i64 t164, .int .i64 t165, .int .u8 t166, .int .i64 t167, .int .i64 t168, .int .i64 t169] 56 (0, 0)) (by (with_reducible skip); refine blk_put (cs := #[.int .u8 t163, .int .i64 t164, .int .i64 t165, .int .u8 t166, .int .i64 t167, .int .i64 t168, .int .i64 0]) ?_ 6 _ rfl; (with_reducible skip); refine blk_put (cs := #[.int .u8 t163, .int .i64 t164, .int .i64 t165, .int .u8 t166, .int .i64 t167, .int .i64 0, .int .i64 0]) ?_ 5 _ rfl; (with_reducible skip); refine blk_put (cs := #[.int .u8 t163, .int .i64 t164, .int .i64 t165, .int .u8 t166, .int .i64 0, .int .i64 0, .int .i64 0]) ?_ 4 _ rfl; (with_reducible skip); refine blk_put (cs := #[.int .u8 t163, .int .i64 t164, .int .i64 t165, .int .u8 0, .int .i64 0, .int .i64 0, .int .i64 0]) ?_ 3 _ rfl; (with_reducible skip); refine blk_put (cs := #[.int .u8 t163, .int .i64 t164, .int .i64 0, .int .u8 0, .int .i64 0, .int .i64 0, .int .i64 0]) ?_ 2 _ rfl; (with_reducible skip); refine blk_put (cs := #[.int .u8 t163, .int .i64 0, .int .i64 0, .int .u8 0, .int .i64 0, .int .i64 0, .int .i64 0]) ?_ 1 _ rfl; (with_reducible skip); refine blk_put (cs := #[.int .u8 0, .int .i64 0, .int .i64 0, .int .u8 0, .int .i64 0, .int .i64 0, .int .i64 0]) ?_ 0 _ rfl; (with_reducible skip); exact BK171.out) hb); replace HB := Aside0.mk (below_step (by repeat (with_reducible first | exact HB.out | refine below_set ?_ GE171.out)) hb); (try clear hb)))
    go_cut [62] (fun v62 wc => ∃ (kq : Nat) (x62_5 : Bool), v62 = .bool x62_5 ∧ Aside0 (fold_Ring.j0 kq t172 t173 x62_5 t163 t164 t165 t166 t167 t168 t169 = some (r1, r2, r3, r4)) ∧ Aside0 (kq ≤ k) ∧ Aside0 (wc.heap[gb157]? = some (.cells #[.int .u8 a0_0, .int .i64 a0_1, .int .i64 a0_2, .int .u8 a0_3, .int .i64 a0_4] 23 (0, 0))) ∧ Aside0 (wc.heap[gb158]? = some (.cells #[.int .i64 a1_0, .int .i64 a1_1] 33 (0, 0))) ∧ Aside0 (wc.heap[gb159]? = some (.cells #[.int .i64 0, .int .i64 0] 33 (0, 0))) ∧ Aside0 (wc.heap[gb171]? = some (.cells #[.int .u8 t163, .int .i64 t164, .int .i64 t165, .int .u8 t166, .int .i64 t167, .int .i64 t168, .int .i64 t169] 56 (0, 0))) ∧ Aside0 (Below w.heap.size w wc))
    case first =>
      have H := HC6.out
      clear HC6
      by_cases c26 : t164 > 0
      · rw [if_pos c26] at H
        have c26b0 : decide (0 < t164) = true := decide_eq_true c26
        clear c26
        (skip)
        by_cases c27 : t172 < (-1)
        · rw [if_pos c27] at H
          have c27b0 : decide (t172 < (-1)) = true := decide_eq_true c27
          clear c27
          have H' := Aside0.mk H
          clear H
          have hnb28 := NB171_157.out
          have hnc28 := NB157_171.out
          have hnb29 := NB171_158.out
          have hnc29 := NB158_171.out
          have hnb30 := NB171_159.out
          have hnc30 := NB159_171.out
          have hcz31_0 : w25.cell? ⟨gb171, 0, none⟩ = some (.int .u8 t163) := (blk_cell BK171.out 0).trans rfl
          have hcz31_1 : w25.cell? ⟨gb171, 1, none⟩ = some (.int .i64 t164) := (blk_cell BK171.out 1).trans rfl
          have hcz31_2 : w25.cell? ⟨gb171, 2, none⟩ = some (.int .i64 t165) := (blk_cell BK171.out 2).trans rfl
          have hcz31_3 : w25.cell? ⟨gb171, 3, none⟩ = some (.int .u8 t166) := (blk_cell BK171.out 3).trans rfl
          have hcz31_4 : w25.cell? ⟨gb171, 4, none⟩ = some (.int .i64 t167) := (blk_cell BK171.out 4).trans rfl
          have hcz31_5 : w25.cell? ⟨gb171, 5, none⟩ = some (.int .i64 t168) := (blk_cell BK171.out 5).trans rfl
          have hcz31_6 : w25.cell? ⟨gb171, 6, none⟩ = some (.int .i64 t169) := (blk_cell BK171.out 6).trans rfl
          have hfz31_0 := blk_frozen BK171.out 0
          have hfz31_1 := blk_frozen BK171.out 1
          have hfz31_2 := blk_frozen BK171.out 2
          have hfz31_3 := blk_frozen BK171.out 3
          have hfz31_4 := blk_frozen BK171.out 4
          have hfz31_5 := blk_frozen BK171.out 5
          have hfz31_6 := blk_frozen BK171.out 6
          go_wp2
          go_meet
          case rel => exact ⟨_, (true), (by (rfl)), H', ⟨by (omega)⟩, ⟨by (with_reducible skip); exact BK157.out⟩, ⟨by (with_reducible skip); exact BK158.out⟩, ⟨by (with_reducible skip); exact BK159.out⟩, ⟨by (with_reducible skip); exact BK171.out⟩, ⟨by repeat (with_reducible (exact HB.out))⟩⟩
        · rw [if_neg c27] at H
          have c27b0 : decide (t172 < (-1)) = false := decide_eq_false c27
          clear c27
          by_cases c32 : t172 > t164
          · rw [if_pos c32] at H
            have c32b0 : decide (t164 < t172) = true := decide_eq_true c32
            clear c32
            have H' := Aside0.mk H
            clear H
            have hnb33 := NB171_157.out
            have hnc33 := NB157_171.out
            have hnb34 := NB171_158.out
            have hnc34 := NB158_171.out
            have hnb35 := NB171_159.out
            have hnc35 := NB159_171.out
            have hcz36_0 : w25.cell? ⟨gb171, 0, none⟩ = some (.int .u8 t163) := (blk_cell BK171.out 0).trans rfl
            have hcz36_1 : w25.cell? ⟨gb171, 1, none⟩ = some (.int .i64 t164) := (blk_cell BK171.out 1).trans rfl
            have hcz36_2 : w25.cell? ⟨gb171, 2, none⟩ = some (.int .i64 t165) := (blk_cell BK171.out 2).trans rfl
            have hcz36_3 : w25.cell? ⟨gb171, 3, none⟩ = some (.int .u8 t166) := (blk_cell BK171.out 3).trans rfl
            have hcz36_4 : w25.cell? ⟨gb171, 4, none⟩ = some (.int .i64 t167) := (blk_cell BK171.out 4).trans rfl
            have hcz36_5 : w25.cell? ⟨gb171, 5, none⟩ = some (.int .i64 t168) := (blk_cell BK171.out 5).trans rfl
            have hcz36_6 : w25.cell? ⟨gb171, 6, none⟩ = some (.int .i64 t169) := (blk_cell BK171.out 6).trans rfl
            have hfz36_0 := blk_frozen BK171.out 0
            have hfz36_1 := blk_frozen BK171.out 1
            have hfz36_2 := blk_frozen BK171.out 2
            have hfz36_3 := blk_frozen BK171.out 3
            have hfz36_4 := blk_frozen BK171.out 4
            have hfz36_5 := blk_frozen BK171.out 5
            have hfz36_6 := blk_frozen BK171.out 6
            go_wp2
            go_meet
            case rel => exact ⟨_, (true), (by (rfl)), H', ⟨by (omega)⟩, ⟨by (with_reducible skip); exact BK157.out⟩, ⟨by (with_reducible skip); exact BK158.out⟩, ⟨by (with_reducible skip); exact BK159.out⟩, ⟨by (with_reducible skip); exact BK171.out⟩, ⟨by repeat (with_reducible (exact HB.out))⟩⟩
          · rw [if_neg c32] at H
            have c32b0 : decide (t164 < t172) = false := decide_eq_false c32
            clear c32
            by_cases c37 : t165 > 0
            · rw [if_pos c37] at H
              have c37b0 : decide (0 < t165) = true := decide_eq_true c37
              clear c37
              by_cases c38 : t173 < (-1)
              · rw [if_pos c38] at H
                have c38b0 : decide (t173 < (-1)) = true := decide_eq_true c38
                clear c38
                have H' := Aside0.mk H
                clear H
                have hnb39 := NB171_157.out
                have hnc39 := NB157_171.out
                have hnb40 := NB171_158.out
                have hnc40 := NB158_171.out
                have hnb41 := NB171_159.out
                have hnc41 := NB159_171.out
                have hcz42_0 : w25.cell? ⟨gb171, 0, none⟩ = some (.int .u8 t163) := (blk_cell BK171.out 0).trans rfl
                have hcz42_1 : w25.cell? ⟨gb171, 1, none⟩ = some (.int .i64 t164) := (blk_cell BK171.out 1).trans rfl
                have hcz42_2 : w25.cell? ⟨gb171, 2, none⟩ = some (.int .i64 t165) := (blk_cell BK171.out 2).trans rfl
                have hcz42_3 : w25.cell? ⟨gb171, 3, none⟩ = some (.int .u8 t166) := (blk_cell BK171.out 3).trans rfl
                have hcz42_4 : w25.cell? ⟨gb171, 4, none⟩ = some (.int .i64 t167) := (blk_cell BK171.out 4).trans rfl
                have hcz42_5 : w25.cell? ⟨gb171, 5, none⟩ = some (.int .i64 t168) := (blk_cell BK171.out 5).trans rfl
                have hcz42_6 : w25.cell? ⟨gb171, 6, none⟩ = some (.int .i64 t169) := (blk_cell BK171.out 6).trans rfl
                have hfz42_0 := blk_frozen BK171.out 0
                have hfz42_1 := blk_frozen BK171.out 1
                have hfz42_2 := blk_frozen BK171.out 2
                have hfz42_3 := blk_frozen BK171.out 3
                have hfz42_4 := blk_frozen BK171.out 4
                have hfz42_5 := blk_frozen BK171.out 5
                have hfz42_6 := blk_frozen BK171.out 6
                go_wp2
                go_meet
                case rel => exact ⟨_, (true), (by (rfl)), H', ⟨by (omega)⟩, ⟨by (with_reducible skip); exact BK157.out⟩, ⟨by (with_reducible skip); exact BK158.out⟩, ⟨by (with_reducible skip); exact BK159.out⟩, ⟨by (with_reducible skip); exact BK171.out⟩, ⟨by repeat (with_reducible (exact HB.out))⟩⟩
              · rw [if_neg c38] at H
                have c38b0 : decide (t173 < (-1)) = false := decide_eq_false c38
                clear c38
                have H' := Aside0.mk H
                clear H
                have hnb43 := NB171_157.out
                have hnc43 := NB157_171.out
                have hnb44 := NB171_158.out
                have hnc44 := NB158_171.out
                have hnb45 := NB171_159.out
                have hnc45 := NB159_171.out
                have hcz46_0 : w25.cell? ⟨gb171, 0, none⟩ = some (.int .u8 t163) := (blk_cell BK171.out 0).trans rfl
                have hcz46_1 : w25.cell? ⟨gb171, 1, none⟩ = some (.int .i64 t164) := (blk_cell BK171.out 1).trans rfl
                have hcz46_2 : w25.cell? ⟨gb171, 2, none⟩ = some (.int .i64 t165) := (blk_cell BK171.out 2).trans rfl
                have hcz46_3 : w25.cell? ⟨gb171, 3, none⟩ = some (.int .u8 t166) := (blk_cell BK171.out 3).trans rfl
                have hcz46_4 : w25.cell? ⟨gb171, 4, none⟩ = some (.int .i64 t167) := (blk_cell BK171.out 4).trans rfl
                have hcz46_5 : w25.cell? ⟨gb171, 5, none⟩ = some (.int .i64 t168) := (blk_cell BK171.out 5).trans rfl
                have hcz46_6 : w25.cell? ⟨gb171, 6, none⟩ = some (.int .i64 t169) := (blk_cell BK171.out 6).trans rfl
                have hfz46_0 := blk_frozen BK171.out 0
                have hfz46_1 := blk_frozen BK171.out 1
                have hfz46_2 := blk_frozen BK171.out 2
                have hfz46_3 := blk_frozen BK171.out 3
                have hfz46_4 := blk_frozen BK171.out 4
                have hfz46_5 := blk_frozen BK171.out 5
                have hfz46_6 := blk_frozen BK171.out 6
                go_wp2
                go_meet
                case rel => exact ⟨_, (decide (t173 > t165)), (by (rfl)), H', ⟨by (omega)⟩, ⟨by (with_reducible skip); exact BK157.out⟩, ⟨by (with_reducible skip); exact BK158.out⟩, ⟨by (with_reducible skip); exact BK159.out⟩, ⟨by (with_reducible skip); exact BK171.out⟩, ⟨by repeat (with_reducible (exact HB.out))⟩⟩
            · rw [if_neg c37] at H
              have c37b0 : decide (0 < t165) = false := decide_eq_false c37
              clear c37
              have H' := Aside0.mk H
              clear H
              have hnb47 := NB171_157.out
              have hnc47 := NB157_171.out
              have hnb48 := NB171_158.out
              have hnc48 := NB158_171.out
              have hnb49 := NB171_159.out
              have hnc49 := NB159_171.out
              have hcz50_0 : w25.cell? ⟨gb171, 0, none⟩ = some (.int .u8 t163) := (blk_cell BK171.out 0).trans rfl
              have hcz50_1 : w25.cell? ⟨gb171, 1, none⟩ = some (.int .i64 t164) := (blk_cell BK171.out 1).trans rfl
              have hcz50_2 : w25.cell? ⟨gb171, 2, none⟩ = some (.int .i64 t165) := (blk_cell BK171.out 2).trans rfl
              have hcz50_3 : w25.cell? ⟨gb171, 3, none⟩ = some (.int .u8 t166) := (blk_cell BK171.out 3).trans rfl
              have hcz50_4 : w25.cell? ⟨gb171, 4, none⟩ = some (.int .i64 t167) := (blk_cell BK171.out 4).trans rfl
              have hcz50_5 : w25.cell? ⟨gb171, 5, none⟩ = some (.int .i64 t168) := (blk_cell BK171.out 5).trans rfl
              have hcz50_6 : w25.cell? ⟨gb171, 6, none⟩ = some (.int .i64 t169) := (blk_cell BK171.out 6).trans rfl
              have hfz50_0 := blk_frozen BK171.out 0
              have hfz50_1 := blk_frozen BK171.out 1
              have hfz50_2 := blk_frozen BK171.out 2
              have hfz50_3 := blk_frozen BK171.out 3
              have hfz50_4 := blk_frozen BK171.out 4
              have hfz50_5 := blk_frozen BK171.out 5
              have hfz50_6 := blk_frozen BK171.out 6
              go_wp2
              go_meet
              case rel => exact ⟨_, (false), (by (rfl)), H', ⟨by (omega)⟩, ⟨by (with_reducible skip); exact BK157.out⟩, ⟨by (with_reducible skip); exact BK158.out⟩, ⟨by (with_reducible skip); exact BK159.out⟩, ⟨by (with_reducible skip); exact BK171.out⟩, ⟨by repeat (with_reducible (exact HB.out))⟩⟩
      · rw [if_neg c26] at H
        have c26b0 : decide (0 < t164) = false := decide_eq_false c26
        clear c26
        (skip)
        by_cases c51 : t165 > 0
        · rw [if_pos c51] at H
          have c51b0 : decide (0 < t165) = true := decide_eq_true c51
          clear c51
          by_cases c52 : t173 < (-1)
          · rw [if_pos c52] at H
            have c52b0 : decide (t173 < (-1)) = true := decide_eq_true c52
            clear c52
            have H' := Aside0.mk H
            clear H
            have hnb53 := NB171_157.out
            have hnc53 := NB157_171.out
            have hnb54 := NB171_158.out
            have hnc54 := NB158_171.out
            have hnb55 := NB171_159.out
            have hnc55 := NB159_171.out
            have hcz56_0 : w25.cell? ⟨gb171, 0, none⟩ = some (.int .u8 t163) := (blk_cell BK171.out 0).trans rfl
            have hcz56_1 : w25.cell? ⟨gb171, 1, none⟩ = some (.int .i64 t164) := (blk_cell BK171.out 1).trans rfl
            have hcz56_2 : w25.cell? ⟨gb171, 2, none⟩ = some (.int .i64 t165) := (blk_cell BK171.out 2).trans rfl
            have hcz56_3 : w25.cell? ⟨gb171, 3, none⟩ = some (.int .u8 t166) := (blk_cell BK171.out 3).trans rfl
            have hcz56_4 : w25.cell? ⟨gb171, 4, none⟩ = some (.int .i64 t167) := (blk_cell BK171.out 4).trans rfl
            have hcz56_5 : w25.cell? ⟨gb171, 5, none⟩ = some (.int .i64 t168) := (blk_cell BK171.out 5).trans rfl
            have hcz56_6 : w25.cell? ⟨gb171, 6, none⟩ = some (.int .i64 t169) := (blk_cell BK171.out 6).trans rfl
            have hfz56_0 := blk_frozen BK171.out 0
            have hfz56_1 := blk_frozen BK171.out 1
            have hfz56_2 := blk_frozen BK171.out 2
            have hfz56_3 := blk_frozen BK171.out 3
            have hfz56_4 := blk_frozen BK171.out 4
            have hfz56_5 := blk_frozen BK171.out 5
            have hfz56_6 := blk_frozen BK171.out 6
            go_wp2
            go_meet
            case rel => exact ⟨_, (true), (by (rfl)), H', ⟨by (omega)⟩, ⟨by (with_reducible skip); exact BK157.out⟩, ⟨by (with_reducible skip); exact BK158.out⟩, ⟨by (with_reducible skip); exact BK159.out⟩, ⟨by (with_reducible skip); exact BK171.out⟩, ⟨by repeat (with_reducible (exact HB.out))⟩⟩
          · rw [if_neg c52] at H
            have c52b0 : decide (t173 < (-1)) = false := decide_eq_false c52
            clear c52
            have H' := Aside0.mk H
            clear H
            have hnb57 := NB171_157.out
            have hnc57 := NB157_171.out
            have hnb58 := NB171_158.out
            have hnc58 := NB158_171.out
            have hnb59 := NB171_159.out
            have hnc59 := NB159_171.out
            have hcz60_0 : w25.cell? ⟨gb171, 0, none⟩ = some (.int .u8 t163) := (blk_cell BK171.out 0).trans rfl
            have hcz60_1 : w25.cell? ⟨gb171, 1, none⟩ = some (.int .i64 t164) := (blk_cell BK171.out 1).trans rfl
            have hcz60_2 : w25.cell? ⟨gb171, 2, none⟩ = some (.int .i64 t165) := (blk_cell BK171.out 2).trans rfl
            have hcz60_3 : w25.cell? ⟨gb171, 3, none⟩ = some (.int .u8 t166) := (blk_cell BK171.out 3).trans rfl
            have hcz60_4 : w25.cell? ⟨gb171, 4, none⟩ = some (.int .i64 t167) := (blk_cell BK171.out 4).trans rfl
            have hcz60_5 : w25.cell? ⟨gb171, 5, none⟩ = some (.int .i64 t168) := (blk_cell BK171.out 5).trans rfl
            have hcz60_6 : w25.cell? ⟨gb171, 6, none⟩ = some (.int .i64 t169) := (blk_cell BK171.out 6).trans rfl
            have hfz60_0 := blk_frozen BK171.out 0
            have hfz60_1 := blk_frozen BK171.out 1
            have hfz60_2 := blk_frozen BK171.out 2
            have hfz60_3 := blk_frozen BK171.out 3
            have hfz60_4 := blk_frozen BK171.out 4
            have hfz60_5 := blk_frozen BK171.out 5
            have hfz60_6 := blk_frozen BK171.out 6
            go_wp2
            go_meet
            case rel => exact ⟨_, (decide (t173 > t165)), (by (rfl)), H', ⟨by (omega)⟩, ⟨by (with_reducible skip); exact BK157.out⟩, ⟨by (with_reducible skip); exact BK158.out⟩, ⟨by (with_reducible skip); exact BK159.out⟩, ⟨by (with_reducible skip); exact BK171.out⟩, ⟨by repeat (with_reducible (exact HB.out))⟩⟩
        · rw [if_neg c51] at H
          have c51b0 : decide (0 < t165) = false := decide_eq_false c51
          clear c51
          have H' := Aside0.mk H
          clear H
          have hnb61 := NB171_157.out
          have hnc61 := NB157_171.out
          have hnb62 := NB171_158.out
          have hnc62 := NB158_171.out
          have hnb63 := NB171_159.out
          have hnc63 := NB159_171.out
          have hcz64_0 : w25.cell? ⟨gb171, 0, none⟩ = some (.int .u8 t163) := (blk_cell BK171.out 0).trans rfl
          have hcz64_1 : w25.cell? ⟨gb171, 1, none⟩ = some (.int .i64 t164) := (blk_cell BK171.out 1).trans rfl
          have hcz64_2 : w25.cell? ⟨gb171, 2, none⟩ = some (.int .i64 t165) := (blk_cell BK171.out 2).trans rfl
          have hcz64_3 : w25.cell? ⟨gb171, 3, none⟩ = some (.int .u8 t166) := (blk_cell BK171.out 3).trans rfl
          have hcz64_4 : w25.cell? ⟨gb171, 4, none⟩ = some (.int .i64 t167) := (blk_cell BK171.out 4).trans rfl
          have hcz64_5 : w25.cell? ⟨gb171, 5, none⟩ = some (.int .i64 t168) := (blk_cell BK171.out 5).trans rfl
          have hcz64_6 : w25.cell? ⟨gb171, 6, none⟩ = some (.int .i64 t169) := (blk_cell BK171.out 6).trans rfl
          have hfz64_0 := blk_frozen BK171.out 0
          have hfz64_1 := blk_frozen BK171.out 1
          have hfz64_2 := blk_frozen BK171.out 2
          have hfz64_3 := blk_frozen BK171.out 3
          have hfz64_4 := blk_frozen BK171.out 4
          have hfz64_5 := blk_frozen BK171.out 5
          have hfz64_6 := blk_frozen BK171.out 6
          go_wp2
          go_meet
          case rel => exact ⟨_, (false), (by (rfl)), H', ⟨by (omega)⟩, ⟨by (with_reducible skip); exact BK157.out⟩, ⟨by (with_reducible skip); exact BK158.out⟩, ⟨by (with_reducible skip); exact BK159.out⟩, ⟨by (with_reducible skip); exact BK171.out⟩, ⟨by repeat (with_reducible (exact HB.out))⟩⟩
    case rest =>
      clear HC6
      try clear c4b0
      try clear c4b1
      try clear hcz12_0
      try clear hcz12_1
      try clear hcz12_2
      try clear hcz12_3
      try clear hcz12_4
      try clear hcz14_0
      try clear hcz14_1
      try clear hcz23_0
      try clear hcz23_1
      try clear hcz23_2
      try clear hcz23_3
      try clear hcz23_4
      try clear hcz23_5
      try clear hcz23_6
      try clear hcz24_0
      try clear hcz24_1
      try clear hfz12_0
      try clear hfz12_1
      try clear hfz12_2
      try clear hfz12_3
      try clear hfz12_4
      try clear hfz14_0
      try clear hfz14_1
      try clear hfz23_0
      try clear hfz23_1
      try clear hfz23_2
      try clear hfz23_3
      try clear hfz23_4
      try clear hfz23_5
      try clear hfz23_6
      try clear hfz24_0
      try clear hfz24_1
      obtain ⟨kq, x62_5, rfl, HA, HJ5, BK157, BK158, BK159, BK171, HB⟩ := hcut
      cases kq with
      | zero => exact absurd HA.out (by simp [fold_Ring.j0])
      | succ kj5 =>
        have H := HA.out
        clear HA
        simp only [fold_Ring.j0] at H
        by_cases c65 : x62_5 = true
        · subst c65
          have H1 : (some (0, 0, false, 60)) = some (r1, r2, r3, r4) := by rw [if_pos rfl] at H; exact H
          clear H
          have H := H1
          clear H1
          simp only [Option.some.injEq, Prod.mk.injEq] at H
          obtain ⟨rfl, rfl, rfl, rfl⟩ := H
          have hnb66 := NB159_157.out
          have hnc66 := NB157_159.out
          have hnb67 := NB159_158.out
          have hnc67 := NB158_159.out
          have hnb68 := NB159_171.out
          have hnc68 := NB171_159.out
          have hcz69_0 : wc.cell? ⟨gb159, 0, none⟩ = some (.int .i64 0) := (blk_cell BK159.out 0).trans rfl
          have hcz69_1 : wc.cell? ⟨gb159, 1, none⟩ = some (.int .i64 0) := (blk_cell BK159.out 1).trans rfl
          have hfz69_0 := blk_frozen BK159.out 0
          have hfz69_1 := blk_frozen BK159.out 1
          go_wp2
          refine bodyPost_ret (results_ctt rfl _ _ gb159 33 #[.int .i64 0, .int .i64 0] (0, 0) _ rfl (by (with_reducible skip); refine blk_put (cs := #[.int .i64 0, .int .i64 0]) ?_ 1 _ rfl; (with_reducible skip); refine blk_put (cs := #[.int .i64 0, .int .i64 0]) ?_ 0 _ rfl; (with_reducible skip); exact BK159.out) Try.underlying33 rfl (by kernel_rfl)) rfl ?_
          exact ⟨by (rfl), by repeat (with_reducible first | exact HB.out | refine below_set ?_ GE159.out)⟩
        · replace c65 := Bool.eq_false_iff.mpr c65
          subst c65
          have H1 : ((fold_way.f t163).bind fun t174 => ((fold_dyn.f kj5 t174 t163 t164 t165 t166 t167 t168 t169 t172 t173).bind fun bt175 => (if bt175.2.2 = true then ((fold_grid_place.f t163 t164 t165 t166 t167 t168 t169 bt175.1 bt175.2.1).bind fun bt178 => (some (bt178.1, bt178.2, true, 0))) else (some (0, 0, false, 0))))) = some (r1, r2, r3, r4) := by rw [if_neg (show ¬ (false = true) by decide)] at H; exact H
          clear H
          have H := H1
          clear H1
          replace H := Option.bind_eq_some_iff.mp H
          obtain ⟨t174, A700, H⟩ := H
          replace H : ((fold_dyn.f kj5 t174 t163 t164 t165 t166 t167 t168 t169 t172 t173).bind fun bt175 => (if bt175.2.2 = true then ((fold_grid_place.f t163 t164 t165 t166 t167 t168 t169 bt175.1 bt175.2.1).bind fun bt178 => (some (bt178.1, bt178.2, true, 0))) else (some (0, 0, false, 0)))) = some (r1, r2, r3, r4) := H
          have A70 := Aside0.mk A700
          clear A700
          replace H := Option.bind_eq_some_iff.mp H
          obtain ⟨⟨t175, t176, t177⟩, A710, H⟩ := H
          replace H : (if t177 = true then ((fold_grid_place.f t163 t164 t165 t166 t167 t168 t169 t175 t176).bind fun bt178 => (some (bt178.1, bt178.2, true, 0))) else (some (0, 0, false, 0))) = some (r1, r2, r3, r4) := H
          have A71 := Aside0.mk A710
          clear A710
          by_cases c72 : t177 = true
          · subst c72
            have H1 : ((fold_grid_place.f t163 t164 t165 t166 t167 t168 t169 t175 t176).bind fun bt178 => (some (bt178.1, bt178.2, true, 0))) = some (r1, r2, r3, r4) := by rw [if_pos rfl] at H; exact H
            clear H
            have H := H1
            clear H1
            replace H := Option.bind_eq_some_iff.mp H
            obtain ⟨⟨t178, t179⟩, A730, H⟩ := H
            replace H : (some (t178, t179, true, 0)) = some (r1, r2, r3, r4) := H
            have A73 := Aside0.mk A730
            clear A730
            simp only [Option.some.injEq, Prod.mk.injEq] at H
            obtain ⟨rfl, rfl, rfl, rfl⟩ := H
            try go_wp2
            replace BK157 := Aside0.mk (blk_drew BK157.out)
            replace BK158 := Aside0.mk (blk_drew BK158.out)
            replace BK159 := Aside0.mk (blk_drew BK159.out)
            replace BK171 := Aside0.mk (blk_drew BK171.out)
            replace HB := Aside0.mk (below_drew1 HB.out)
            refine start_ (n := 15) (S := fun w' => w'.cell? ⟨gb171, 0, none⟩ = some (.int .u8 t163) ∧ w'.cell? ⟨gb171, 1, none⟩ = some (.int .i64 t164) ∧ w'.cell? ⟨gb171, 2, none⟩ = some (.int .i64 t165) ∧ w'.cell? ⟨gb171, 3, none⟩ = some (.int .u8 t166) ∧ w'.cell? ⟨gb171, 4, none⟩ = some (.int .i64 t167) ∧ w'.cell? ⟨gb171, 5, none⟩ = some (.int .i64 t168) ∧ w'.cell? ⟨gb171, 6, none⟩ = some (.int .i64 t169)) (ds := []) #[false, false, false, false, false, false, false, false, false, false, false, false, false, false, false] (by kernel_rfl) rfl rfl ⟨(blk_cell BK171.out 0).trans rfl, (blk_cell BK171.out 1).trans rfl, (blk_cell BK171.out 2).trans rfl, (blk_cell BK171.out 3).trans rfl, (blk_cell BK171.out 4).trans rfl, (blk_cell BK171.out 5).trans rfl, (blk_cell BK171.out 6).trans rfl⟩ (fun hHeld => ?_); refine with_tabW fold_Ring.tab7 fold_Ring.bits7 (fun HT_ HW_ => ?_)
            generalize wc.drew = w74 at BK157 BK158 BK159 BK171 HB hHeld ⊢
            refine pure_ (i := 0) (N := some 65) (v := ?_) (a' := ?_) #[true, false, false, false, false, false, false, false, false, false, false, false, false, false, false] rfl rfl (any_of HT_.out (by kernel_rfl)) (fun _ _ _ h => h) (Or.inl ⟨by rfl, ?_⟩) ?_ ?_
            rotate_left
            · intro w'
              go_simp
              with_reducible rfl
            rotate_left
            · simp only [Act.put, List.setIfInBounds_toArray, List.set_cons_zero, List.set_cons_succ, i64_w, i32_w]
              rfl
            refine pure_ (i := 1) (N := some 66) (v := ?_) (a' := ?_) #[true, true, false, false, false, false, false, false, false, false, false, false, false, false, false] rfl rfl (any_of HT_.out (by kernel_rfl)) (fun _ _ _ h => h) (Or.inl ⟨by rfl, ?_⟩) ?_ ?_
            rotate_left
            · intro w'
              go_simp
              with_reducible rfl
            rotate_left
            · simp only [Act.put, List.setIfInBounds_toArray, List.set_cons_zero, List.set_cons_succ, i64_w, i32_w]
              rfl
            refine pure_ (i := 5) (N := some 70) (v := ?_) (a' := ?_) #[true, true, false, false, false, true, false, false, false, false, false, false, false, false, false] rfl rfl (any_of HT_.out (by kernel_rfl)) (fun _ _ _ h => h) (Or.inl ⟨by rfl, ?_⟩) ?_ ?_
            rotate_left
            · intro w'
              go_simp
              with_reducible rfl
            rotate_left
            · simp only [Act.put, List.setIfInBounds_toArray, List.set_cons_zero, List.set_cons_succ, i64_w, i32_w]
              rfl
            refine pure_ (i := 6) (N := some 71) (v := ?_) (a' := ?_) #[true, true, false, false, false, true, true, false, false, false, false, false, false, false, false] rfl rfl (any_of HT_.out (by kernel_rfl)) (fun _ _ _ h => h) (Or.inl ⟨by rfl, ?_⟩) ?_ ?_
            rotate_left
            · intro w'
              go_simp
              with_reducible rfl
            rotate_left
            · simp only [Act.put, List.setIfInBounds_toArray, List.set_cons_zero, List.set_cons_succ, i64_w, i32_w]
              rfl
            refine take_ (i := 2) (N := some 67) (v := ?_) (a' := ?_) #[true, true, true, false, false, true, true, false, false, false, false, false, false, false, false] rfl rfl (take_ofW HT_.out HW_.out (by kernel_rfl)) (fun _ _ _ h => h) (Or.inl ⟨by rfl, ?_⟩) hHeld ?_ ?_
            rotate_left
            · rintro w' ⟨s0, s1, s2, s3, s4, s5, s6⟩
              go_simp
              with_reducible rfl
            rotate_left
            · simp only [Act.put, List.setIfInBounds_toArray, List.set_cons_zero, List.set_cons_succ, i64_w, i32_w]
              rfl
            refine take_ (i := 4) (N := some 69) (v := ?_) (a' := ?_) #[true, true, true, false, true, true, true, false, false, false, false, false, false, false, false] rfl rfl (take_ofW HT_.out HW_.out (by kernel_rfl)) (fun _ _ _ h => h) (Or.inl ⟨by rfl, ?_⟩) hHeld ?_ ?_
            rotate_left
            · rintro w' ⟨s0, s1, s2, s3, s4, s5, s6⟩
              go_simp
              with_reducible rfl
            rotate_left
            · simp only [Act.put, List.setIfInBounds_toArray, List.set_cons_zero, List.set_cons_succ, i64_w, i32_w]
              rfl
            refine one_ (i := 3) (N := some 68) #[true, true, true, true, true, true, true, false, false, false, false, false, false, false, false] rfl rfl (one_of HT_.out (by kernel_rfl)) (by decide) (fun K hK => ?_)
            refine goes_ Try.func20 (by kernel_rfl) rfl #[.int .u8 t163] (by rfl) rfl rfl (by (try simp only [List.map_toArray, List.map_cons, List.map_nil]); (rfl)) ?_
            with_reducible refine (fold_way.calls t163 t174 _ A70.out).mono ?_
            rintro e w75 ⟨rfl, hb⟩
            refine ⟨_, rfl, ?_⟩
            replace BK157 := Aside0.mk (blk_below BK157.out hb)
            replace BK158 := Aside0.mk (blk_below BK158.out hb)
            replace BK159 := Aside0.mk (blk_below BK159.out hb)
            replace BK171 := Aside0.mk (blk_below BK171.out hb)
            replace HB := Aside0.mk (below_step HB.out hb)
            (try clear hb)
            refine hK.out _ _ ⟨(blk_cell BK171.out 0).trans rfl, (blk_cell BK171.out 1).trans rfl, (blk_cell BK171.out 2).trans rfl, (blk_cell BK171.out 3).trans rfl, (blk_cell BK171.out 4).trans rfl, (blk_cell BK171.out 5).trans rfl, (blk_cell BK171.out 6).trans rfl⟩ (fun hHeld => ?_)
            clear hK K
            refine norm_ (a' := ?_) ?_ ?_
            rotate_left
            · show Act.put _ (some 68) _ = _
              simp only [Act.put, List.setIfInBounds_toArray, List.set_cons_zero, List.set_cons_succ, i64_w, i32_w]
              rfl
            refine one_ (i := 7) (N := some 72) #[true, true, true, true, true, true, true, true, false, false, false, false, false, false, false] rfl rfl (one_of HT_.out (by kernel_rfl)) (by decide) (fun K hK => ?_)
            refine goesF_ _ (fold_dyn.found A71.out) #[.agg #[.int .u8 t163, .int .i64 t164, .int .i64 t165, .int .u8 t166, .int .i64 t167, .int .i64 t168, .int .i64 t169], .int .i64 t172, .int .i64 t173] (by rfl) rfl rfl (by rfl) (by (try simp only [List.map_toArray, List.map_cons, List.map_nil]); (rfl)) ?_
            with_reducible refine (fold_dyn.calls kj5 t174 t163 t164 t165 t166 t167 t168 t169 t172 t173 t175 t176 true _ A71.out).mono ?_
            rintro e w76 ⟨rfl, hb⟩
            refine ⟨_, rfl, ?_⟩
            replace BK157 := Aside0.mk (blk_below BK157.out hb)
            replace BK158 := Aside0.mk (blk_below BK158.out hb)
            replace BK159 := Aside0.mk (blk_below BK159.out hb)
            replace BK171 := Aside0.mk (blk_below BK171.out hb)
            replace HB := Aside0.mk (below_step HB.out hb)
            (try clear hb)
            refine hK.out _ _ ⟨(blk_cell BK171.out 0).trans rfl, (blk_cell BK171.out 1).trans rfl, (blk_cell BK171.out 2).trans rfl, (blk_cell BK171.out 3).trans rfl, (blk_cell BK171.out 4).trans rfl, (blk_cell BK171.out 5).trans rfl, (blk_cell BK171.out 6).trans rfl⟩ (fun hHeld => ?_)
            clear hK K
            refine norm_ (a' := ?_) ?_ ?_
            rotate_left
            · show Act.put _ (some 72) _ = _
              simp only [Act.put, List.setIfInBounds_toArray, List.set_cons_zero, List.set_cons_succ, i64_w, i32_w]
              rfl
            refine pure_ (i := 8) (N := some 64) (v := ?_) (a' := ?_) #[true, true, true, true, true, true, true, true, true, false, false, false, false, false, false] rfl rfl (any_of HT_.out (by kernel_rfl)) (fun _ _ _ h => h) (Or.inl ⟨by rfl, ?_⟩) ?_ ?_
            rotate_left
            · intro w'
              go_simp
              with_reducible rfl
            rotate_left
            · simp only [Act.put, List.setIfInBounds_toArray, List.set_cons_zero, List.set_cons_succ, i64_w, i32_w]
              rfl
            refine pure_ (i := 9) (N := some 73) (v := ?_) (a' := ?_) #[true, true, true, true, true, true, true, true, true, true, false, false, false, false, false] rfl rfl (any_of HT_.out (by kernel_rfl)) (fun _ _ _ h => h) (Or.inl ⟨by rfl, ?_⟩) ?_ ?_
            rotate_left
            · intro w'
              go_simp
              with_reducible rfl
            rotate_left
            · simp only [Act.put, List.setIfInBounds_toArray, List.set_cons_zero, List.set_cons_succ, i64_w, i32_w]
              rfl
            refine pure_ (i := 10) (N := some 74) (v := ?_) (a' := ?_) #[true, true, true, true, true, true, true, true, true, true, true, false, false, false, false] rfl rfl (any_of HT_.out (by kernel_rfl)) (fun _ _ _ h => h) (Or.inl ⟨by rfl, ?_⟩) ?_ ?_
            rotate_left
            · intro w'
              go_simp
              with_reducible rfl
            rotate_left
            · simp only [Act.put, List.setIfInBounds_toArray, List.set_cons_zero, List.set_cons_succ, i64_w, i32_w]
              rfl
            refine pure_ (i := 11) (N := some 75) (v := ?_) (a' := ?_) #[true, true, true, true, true, true, true, true, true, true, true, true, false, false, false] rfl rfl (any_of HT_.out (by kernel_rfl)) (fun _ _ _ h => h) (Or.inl ⟨by rfl, ?_⟩) ?_ ?_
            rotate_left
            · intro w'
              go_simp
              with_reducible rfl
            rotate_left
            · simp only [Act.put, List.setIfInBounds_toArray, List.set_cons_zero, List.set_cons_succ, i64_w, i32_w]
              rfl
            refine pure_ (i := 12) (N := some 11) (v := ?_) (a' := ?_) #[true, true, true, true, true, true, true, true, true, true, true, true, true, false, false] rfl rfl (any_of HT_.out (by kernel_rfl)) (fun _ _ _ h => h) (Or.inl ⟨by rfl, ?_⟩) ?_ ?_
            rotate_left
            · intro w'
              go_simp
              with_reducible rfl
            rotate_left
            · simp only [Act.put, List.setIfInBounds_toArray, List.set_cons_zero, List.set_cons_succ, i64_w, i32_w]
              rfl
            refine pure_ (i := 13) (N := some 12) (v := ?_) (a' := ?_) #[true, true, true, true, true, true, true, true, true, true, true, true, true, true, false] rfl rfl (any_of HT_.out (by kernel_rfl)) (fun _ _ _ h => h) (Or.inl ⟨by rfl, ?_⟩) ?_ ?_
            rotate_left
            · intro w'
              go_simp
              with_reducible rfl
            rotate_left
            · simp only [Act.put, List.setIfInBounds_toArray, List.set_cons_zero, List.set_cons_succ, i64_w, i32_w]
              rfl
            refine pure_ (i := 14) (N := some 13) (v := ?_) (a' := ?_) #[true, true, true, true, true, true, true, true, true, true, true, true, true, true, true] rfl rfl (any_of HT_.out (by kernel_rfl)) (fun _ _ _ h => h) (Or.inl ⟨by rfl, ?_⟩) ?_ ?_
            rotate_left
            · intro w'
              go_simp
              with_reducible rfl
            rotate_left
            · simp only [Act.put, List.setIfInBounds_toArray, List.set_cons_zero, List.set_cons_succ, i64_w, i32_w]
              rfl
            refine done_ (done_of HT_.out (by kernel_rfl)) ?_
            have hnb77 := NB171_157.out
            have hnc77 := NB157_171.out
            have hnb78 := NB171_158.out
            have hnc78 := NB158_171.out
            have hnb79 := NB171_159.out
            have hnc79 := NB159_171.out
            have hcz80_0 : w76.cell? ⟨gb171, 0, none⟩ = some (.int .u8 t163) := (blk_cell BK171.out 0).trans rfl
            have hcz80_1 : w76.cell? ⟨gb171, 1, none⟩ = some (.int .i64 t164) := (blk_cell BK171.out 1).trans rfl
            have hcz80_2 : w76.cell? ⟨gb171, 2, none⟩ = some (.int .i64 t165) := (blk_cell BK171.out 2).trans rfl
            have hcz80_3 : w76.cell? ⟨gb171, 3, none⟩ = some (.int .u8 t166) := (blk_cell BK171.out 3).trans rfl
            have hcz80_4 : w76.cell? ⟨gb171, 4, none⟩ = some (.int .i64 t167) := (blk_cell BK171.out 4).trans rfl
            have hcz80_5 : w76.cell? ⟨gb171, 5, none⟩ = some (.int .i64 t168) := (blk_cell BK171.out 5).trans rfl
            have hcz80_6 : w76.cell? ⟨gb171, 6, none⟩ = some (.int .i64 t169) := (blk_cell BK171.out 6).trans rfl
            have hfz80_0 := blk_frozen BK171.out 0
            have hfz80_1 := blk_frozen BK171.out 1
            have hfz80_2 := blk_frozen BK171.out 2
            have hfz80_3 := blk_frozen BK171.out 3
            have hfz80_4 := blk_frozen BK171.out 4
            have hfz80_5 := blk_frozen BK171.out 5
            have hfz80_6 := blk_frozen BK171.out 6
            try go_wp2_with ((((with_reducible refine gate_callee (f := 21) rfl ?_); refine goesL_ (some 82) rfl rfl Try.func21 (by kernel_rfl) rfl #[.agg #[.int .u8 t163, .int .i64 t164, .int .i64 t165, .int .u8 t166, .int .i64 t167, .int .i64 t168, .int .i64 t169], .int .i64 t175, .int .i64 t176] rfl (by (try simp only [List.map_toArray, List.map_cons, List.map_nil]); (rfl)) ?_; (with_reducible refine (fold_grid_place.calls t163 t164 t165 t166 t167 t168 t169 t175 t176 t178 t179 _ A73.out).mono ?_); rintro e w81 ⟨rfl, hb⟩; refine ⟨_, rfl, ?_⟩; replace BK157 := Aside0.mk (blk_below BK157.out hb); replace BK158 := Aside0.mk (blk_below BK158.out hb); replace BK159 := Aside0.mk (blk_below BK159.out hb); replace BK171 := Aside0.mk (blk_below BK171.out hb); replace HB := Aside0.mk (below_step HB.out hb); (try clear hb); have hnb82 := NB159_157.out; have hnc82 := NB157_159.out; have hnb83 := NB159_158.out; have hnc83 := NB158_159.out; have hcz84_0 : w81.cell? ⟨gb159, 0, none⟩ = some (.int .i64 0) := (blk_cell BK159.out 0).trans rfl; have hcz84_1 : w81.cell? ⟨gb159, 1, none⟩ = some (.int .i64 0) := (blk_cell BK159.out 1).trans rfl; have hfz84_0 := blk_frozen BK159.out 0; have hfz84_1 := blk_frozen BK159.out 1)))
            refine bodyPost_ret (results_ctt rfl _ _ gb159 33 #[.int .i64 t178, .int .i64 t179] (0, 0) _ rfl (by (with_reducible skip); refine blk_put (cs := #[.int .i64 t178, .int .i64 0]) ?_ 1 _ rfl; (with_reducible skip); refine blk_put (cs := #[.int .i64 0, .int .i64 0]) ?_ 0 _ rfl; (with_reducible skip); exact BK159.out) Try.underlying33 rfl (by kernel_rfl)) rfl ?_
            exact ⟨by (rfl), by repeat (with_reducible first | exact HB.out | refine below_set ?_ GE159.out)⟩
          · replace c72 := Bool.eq_false_iff.mpr c72
            subst c72
            have H1 : (some (0, 0, false, 0)) = some (r1, r2, r3, r4) := by rw [if_neg (show ¬ (false = true) by decide)] at H; exact H
            clear H
            have H := H1
            clear H1
            simp only [Option.some.injEq, Prod.mk.injEq] at H
            obtain ⟨rfl, rfl, rfl, rfl⟩ := H
            try go_wp2
            replace BK157 := Aside0.mk (blk_drew BK157.out)
            replace BK158 := Aside0.mk (blk_drew BK158.out)
            replace BK159 := Aside0.mk (blk_drew BK159.out)
            replace BK171 := Aside0.mk (blk_drew BK171.out)
            replace HB := Aside0.mk (below_drew1 HB.out)
            refine start_ (n := 15) (S := fun w' => w'.cell? ⟨gb171, 0, none⟩ = some (.int .u8 t163) ∧ w'.cell? ⟨gb171, 1, none⟩ = some (.int .i64 t164) ∧ w'.cell? ⟨gb171, 2, none⟩ = some (.int .i64 t165) ∧ w'.cell? ⟨gb171, 3, none⟩ = some (.int .u8 t166) ∧ w'.cell? ⟨gb171, 4, none⟩ = some (.int .i64 t167) ∧ w'.cell? ⟨gb171, 5, none⟩ = some (.int .i64 t168) ∧ w'.cell? ⟨gb171, 6, none⟩ = some (.int .i64 t169)) (ds := []) #[false, false, false, false, false, false, false, false, false, false, false, false, false, false, false] (by kernel_rfl) rfl rfl ⟨(blk_cell BK171.out 0).trans rfl, (blk_cell BK171.out 1).trans rfl, (blk_cell BK171.out 2).trans rfl, (blk_cell BK171.out 3).trans rfl, (blk_cell BK171.out 4).trans rfl, (blk_cell BK171.out 5).trans rfl, (blk_cell BK171.out 6).trans rfl⟩ (fun hHeld => ?_); refine with_tabW fold_Ring.tab7 fold_Ring.bits7 (fun HT_ HW_ => ?_)
            generalize wc.drew = w85 at BK157 BK158 BK159 BK171 HB hHeld ⊢
            refine pure_ (i := 0) (N := some 65) (v := ?_) (a' := ?_) #[true, false, false, false, false, false, false, false, false, false, false, false, false, false, false] rfl rfl (any_of HT_.out (by kernel_rfl)) (fun _ _ _ h => h) (Or.inl ⟨by rfl, ?_⟩) ?_ ?_
            rotate_left
            · intro w'
              go_simp
              with_reducible rfl
            rotate_left
            · simp only [Act.put, List.setIfInBounds_toArray, List.set_cons_zero, List.set_cons_succ, i64_w, i32_w]
              rfl
            refine pure_ (i := 1) (N := some 66) (v := ?_) (a' := ?_) #[true, true, false, false, false, false, false, false, false, false, false, false, false, false, false] rfl rfl (any_of HT_.out (by kernel_rfl)) (fun _ _ _ h => h) (Or.inl ⟨by rfl, ?_⟩) ?_ ?_
            rotate_left
            · intro w'
              go_simp
              with_reducible rfl
            rotate_left
            · simp only [Act.put, List.setIfInBounds_toArray, List.set_cons_zero, List.set_cons_succ, i64_w, i32_w]
              rfl
            refine pure_ (i := 5) (N := some 70) (v := ?_) (a' := ?_) #[true, true, false, false, false, true, false, false, false, false, false, false, false, false, false] rfl rfl (any_of HT_.out (by kernel_rfl)) (fun _ _ _ h => h) (Or.inl ⟨by rfl, ?_⟩) ?_ ?_
            rotate_left
            · intro w'
              go_simp
              with_reducible rfl
            rotate_left
            · simp only [Act.put, List.setIfInBounds_toArray, List.set_cons_zero, List.set_cons_succ, i64_w, i32_w]
              rfl
            refine pure_ (i := 6) (N := some 71) (v := ?_) (a' := ?_) #[true, true, false, false, false, true, true, false, false, false, false, false, false, false, false] rfl rfl (any_of HT_.out (by kernel_rfl)) (fun _ _ _ h => h) (Or.inl ⟨by rfl, ?_⟩) ?_ ?_
            rotate_left
            · intro w'
              go_simp
              with_reducible rfl
            rotate_left
            · simp only [Act.put, List.setIfInBounds_toArray, List.set_cons_zero, List.set_cons_succ, i64_w, i32_w]
              rfl
            refine take_ (i := 2) (N := some 67) (v := ?_) (a' := ?_) #[true, true, true, false, false, true, true, false, false, false, false, false, false, false, false] rfl rfl (take_ofW HT_.out HW_.out (by kernel_rfl)) (fun _ _ _ h => h) (Or.inl ⟨by rfl, ?_⟩) hHeld ?_ ?_
            rotate_left
            · rintro w' ⟨s0, s1, s2, s3, s4, s5, s6⟩
              go_simp
              with_reducible rfl
            rotate_left
            · simp only [Act.put, List.setIfInBounds_toArray, List.set_cons_zero, List.set_cons_succ, i64_w, i32_w]
              rfl
            refine take_ (i := 4) (N := some 69) (v := ?_) (a' := ?_) #[true, true, true, false, true, true, true, false, false, false, false, false, false, false, false] rfl rfl (take_ofW HT_.out HW_.out (by kernel_rfl)) (fun _ _ _ h => h) (Or.inl ⟨by rfl, ?_⟩) hHeld ?_ ?_
            rotate_left
            · rintro w' ⟨s0, s1, s2, s3, s4, s5, s6⟩
              go_simp
              with_reducible rfl
            rotate_left
            · simp only [Act.put, List.setIfInBounds_toArray, List.set_cons_zero, List.set_cons_succ, i64_w, i32_w]
              rfl
            refine one_ (i := 3) (N := some 68) #[true, true, true, true, true, true, true, false, false, false, false, false, false, false, false] rfl rfl (one_of HT_.out (by kernel_rfl)) (by decide) (fun K hK => ?_)
            refine goes_ Try.func20 (by kernel_rfl) rfl #[.int .u8 t163] (by rfl) rfl rfl (by (try simp only [List.map_toArray, List.map_cons, List.map_nil]); (rfl)) ?_
            with_reducible refine (fold_way.calls t163 t174 _ A70.out).mono ?_
            rintro e w86 ⟨rfl, hb⟩
            refine ⟨_, rfl, ?_⟩
            replace BK157 := Aside0.mk (blk_below BK157.out hb)
            replace BK158 := Aside0.mk (blk_below BK158.out hb)
            replace BK159 := Aside0.mk (blk_below BK159.out hb)
            replace BK171 := Aside0.mk (blk_below BK171.out hb)
            replace HB := Aside0.mk (below_step HB.out hb)
            (try clear hb)
            refine hK.out _ _ ⟨(blk_cell BK171.out 0).trans rfl, (blk_cell BK171.out 1).trans rfl, (blk_cell BK171.out 2).trans rfl, (blk_cell BK171.out 3).trans rfl, (blk_cell BK171.out 4).trans rfl, (blk_cell BK171.out 5).trans rfl, (blk_cell BK171.out 6).trans rfl⟩ (fun hHeld => ?_)
            clear hK K
            refine norm_ (a' := ?_) ?_ ?_
            rotate_left
            · show Act.put _ (some 68) _ = _
              simp only [Act.put, List.setIfInBounds_toArray, List.set_cons_zero, List.set_cons_succ, i64_w, i32_w]
              rfl
            refine one_ (i := 7) (N := some 72) #[true, true, true, true, true, true, true, true, false, false, false, false, false, false, false] rfl rfl (one_of HT_.out (by kernel_rfl)) (by decide) (fun K hK => ?_)
            refine goesF_ _ (fold_dyn.found A71.out) #[.agg #[.int .u8 t163, .int .i64 t164, .int .i64 t165, .int .u8 t166, .int .i64 t167, .int .i64 t168, .int .i64 t169], .int .i64 t172, .int .i64 t173] (by rfl) rfl rfl (by rfl) (by (try simp only [List.map_toArray, List.map_cons, List.map_nil]); (rfl)) ?_
            with_reducible refine (fold_dyn.calls kj5 t174 t163 t164 t165 t166 t167 t168 t169 t172 t173 t175 t176 false _ A71.out).mono ?_
            rintro e w87 ⟨rfl, hb⟩
            refine ⟨_, rfl, ?_⟩
            replace BK157 := Aside0.mk (blk_below BK157.out hb)
            replace BK158 := Aside0.mk (blk_below BK158.out hb)
            replace BK159 := Aside0.mk (blk_below BK159.out hb)
            replace BK171 := Aside0.mk (blk_below BK171.out hb)
            replace HB := Aside0.mk (below_step HB.out hb)
            (try clear hb)
            refine hK.out _ _ ⟨(blk_cell BK171.out 0).trans rfl, (blk_cell BK171.out 1).trans rfl, (blk_cell BK171.out 2).trans rfl, (blk_cell BK171.out 3).trans rfl, (blk_cell BK171.out 4).trans rfl, (blk_cell BK171.out 5).trans rfl, (blk_cell BK171.out 6).trans rfl⟩ (fun hHeld => ?_)
            clear hK K
            refine norm_ (a' := ?_) ?_ ?_
            rotate_left
            · show Act.put _ (some 72) _ = _
              simp only [Act.put, List.setIfInBounds_toArray, List.set_cons_zero, List.set_cons_succ, i64_w, i32_w]
              rfl
            refine pure_ (i := 8) (N := some 64) (v := ?_) (a' := ?_) #[true, true, true, true, true, true, true, true, true, false, false, false, false, false, false] rfl rfl (any_of HT_.out (by kernel_rfl)) (fun _ _ _ h => h) (Or.inl ⟨by rfl, ?_⟩) ?_ ?_
            rotate_left
            · intro w'
              go_simp
              with_reducible rfl
            rotate_left
            · simp only [Act.put, List.setIfInBounds_toArray, List.set_cons_zero, List.set_cons_succ, i64_w, i32_w]
              rfl
            refine pure_ (i := 9) (N := some 73) (v := ?_) (a' := ?_) #[true, true, true, true, true, true, true, true, true, true, false, false, false, false, false] rfl rfl (any_of HT_.out (by kernel_rfl)) (fun _ _ _ h => h) (Or.inl ⟨by rfl, ?_⟩) ?_ ?_
            rotate_left
            · intro w'
              go_simp
              with_reducible rfl
            rotate_left
            · simp only [Act.put, List.setIfInBounds_toArray, List.set_cons_zero, List.set_cons_succ, i64_w, i32_w]
              rfl
            refine pure_ (i := 10) (N := some 74) (v := ?_) (a' := ?_) #[true, true, true, true, true, true, true, true, true, true, true, false, false, false, false] rfl rfl (any_of HT_.out (by kernel_rfl)) (fun _ _ _ h => h) (Or.inl ⟨by rfl, ?_⟩) ?_ ?_
            rotate_left
            · intro w'
              go_simp
              with_reducible rfl
            rotate_left
            · simp only [Act.put, List.setIfInBounds_toArray, List.set_cons_zero, List.set_cons_succ, i64_w, i32_w]
              rfl
            refine pure_ (i := 11) (N := some 75) (v := ?_) (a' := ?_) #[true, true, true, true, true, true, true, true, true, true, true, true, false, false, false] rfl rfl (any_of HT_.out (by kernel_rfl)) (fun _ _ _ h => h) (Or.inl ⟨by rfl, ?_⟩) ?_ ?_
            rotate_left
            · intro w'
              go_simp
              with_reducible rfl
            rotate_left
            · simp only [Act.put, List.setIfInBounds_toArray, List.set_cons_zero, List.set_cons_succ, i64_w, i32_w]
              rfl
            refine pure_ (i := 12) (N := some 11) (v := ?_) (a' := ?_) #[true, true, true, true, true, true, true, true, true, true, true, true, true, false, false] rfl rfl (any_of HT_.out (by kernel_rfl)) (fun _ _ _ h => h) (Or.inl ⟨by rfl, ?_⟩) ?_ ?_
            rotate_left
            · intro w'
              go_simp
              with_reducible rfl
            rotate_left
            · simp only [Act.put, List.setIfInBounds_toArray, List.set_cons_zero, List.set_cons_succ, i64_w, i32_w]
              rfl
            refine pure_ (i := 13) (N := some 12) (v := ?_) (a' := ?_) #[true, true, true, true, true, true, true, true, true, true, true, true, true, true, false] rfl rfl (any_of HT_.out (by kernel_rfl)) (fun _ _ _ h => h) (Or.inl ⟨by rfl, ?_⟩) ?_ ?_
            rotate_left
            · intro w'
              go_simp
              with_reducible rfl
            rotate_left
            · simp only [Act.put, List.setIfInBounds_toArray, List.set_cons_zero, List.set_cons_succ, i64_w, i32_w]
              rfl
            refine pure_ (i := 14) (N := some 13) (v := ?_) (a' := ?_) #[true, true, true, true, true, true, true, true, true, true, true, true, true, true, true] rfl rfl (any_of HT_.out (by kernel_rfl)) (fun _ _ _ h => h) (Or.inl ⟨by rfl, ?_⟩) ?_ ?_
            rotate_left
            · intro w'
              go_simp
              with_reducible rfl
            rotate_left
            · simp only [Act.put, List.setIfInBounds_toArray, List.set_cons_zero, List.set_cons_succ, i64_w, i32_w]
              rfl
            refine done_ (done_of HT_.out (by kernel_rfl)) ?_
            have hnb88 := NB159_157.out
            have hnc88 := NB157_159.out
            have hnb89 := NB159_158.out
            have hnc89 := NB158_159.out
            have hnb90 := NB159_171.out
            have hnc90 := NB171_159.out
            have hcz91_0 : w87.cell? ⟨gb159, 0, none⟩ = some (.int .i64 0) := (blk_cell BK159.out 0).trans rfl
            have hcz91_1 : w87.cell? ⟨gb159, 1, none⟩ = some (.int .i64 0) := (blk_cell BK159.out 1).trans rfl
            have hfz91_0 := blk_frozen BK159.out 0
            have hfz91_1 := blk_frozen BK159.out 1
            try go_wp2
            refine bodyPost_ret (results_ctt rfl _ _ gb159 33 #[.int .i64 0, .int .i64 0] (0, 0) _ rfl (by (with_reducible skip); refine blk_put (cs := #[.int .i64 0, .int .i64 0]) ?_ 1 _ rfl; (with_reducible skip); refine blk_put (cs := #[.int .i64 0, .int .i64 0]) ?_ 0 _ rfl; (with_reducible skip); exact BK159.out) Try.underlying33 rfl (by kernel_rfl)) rfl ?_
            exact ⟨by (rfl), by repeat (with_reducible first | exact HB.out | refine below_set ?_ GE159.out)⟩
  · rw [if_neg c4] at H
    have c4b0 : (t170 == 0) = false := beq_eq_false_iff_ne.mpr c4
    have c4b1 : (t170 != 0) = true := bne_iff_ne.mpr c4
    simp only [Option.some.injEq, Prod.mk.injEq] at H
    obtain ⟨rfl, rfl, rfl, rfl⟩ := H
    go_enter Try.func8, Try.ntmps8
    go_wp2_with (first | ((with_reducible refine gate_dst (N := 2) rfl ?_); refine box_event ?hg (N := 2) ?hd (cs := #[.int .u8 a0_0, .int .i64 a0_1, .int .i64 a0_2, .int .u8 a0_3, .int .i64 a0_4]) (t := 23) ?hr ?_; (case hd => rfl); (case hg => rfl); (case hr => (go_simp; done)); intro gb157 hg w92 hbox hb; have BK157 := Aside0.mk hbox; have GW157 := Aside0.mk ((by rw [hg]; exact (below_size HB.out) : w.heap.size ≤ gb157)); have GE157 := Aside0.mk ((by rw [hg]; exact (below_size HB.out) : w.heap.size ≤ gb157)); replace HB := Aside0.mk (below_step HB.out hb); clear hb hbox hg) | ((with_reducible refine gate_dst (N := 3) rfl ?_); refine box_event ?hg (N := 3) ?hd (cs := #[.int .i64 a1_0, .int .i64 a1_1]) (t := 33) ?hr ?_; (case hd => rfl); (case hg => rfl); (case hr => (go_simp; done)); intro gb158 hg w93 hbox hb; have BK158 := Aside0.mk hbox; have GW158 := Aside0.mk ((by rw [hg]; exact (below_size HB.out) : w.heap.size ≤ gb158)); have GE158 := Aside0.mk ((by rw [hg]; exact (below_size HB.out) : w.heap.size ≤ gb158)); have NB157_158 := Aside0.mk ((by rw [hg]; exact Nat.ne_of_lt (blk_lt BK157.out) : gb157 ≠ gb158)); have NB158_157 := Aside0.mk ((by rw [hg]; exact Nat.ne_of_gt (blk_lt BK157.out) : gb158 ≠ gb157)); replace BK157 := Aside0.mk (blk_below BK157.out hb); replace HB := Aside0.mk (below_step HB.out hb); clear hb hbox hg) | ((with_reducible refine gate_dst (N := 4) rfl ?_); refine box_event ?hg (N := 4) ?hd (cs := #[.int .i64 0, .int .i64 0]) (t := 33) ?hr ?_; (case hd => rfl); (case hg => rfl); (case hr => (go_simp; done)); intro gb159 hg w94 hbox hb; have BK159 := Aside0.mk hbox; have GW159 := Aside0.mk ((by rw [hg]; exact (below_size HB.out) : w.heap.size ≤ gb159)); have GE159 := Aside0.mk ((by rw [hg]; exact (below_size HB.out) : w.heap.size ≤ gb159)); have NB157_159 := Aside0.mk ((by rw [hg]; exact Nat.ne_of_lt (blk_lt BK157.out) : gb157 ≠ gb159)); have NB159_157 := Aside0.mk ((by rw [hg]; exact Nat.ne_of_gt (blk_lt BK157.out) : gb159 ≠ gb157)); have NB158_159 := Aside0.mk ((by rw [hg]; exact Nat.ne_of_lt (blk_lt BK158.out) : gb158 ≠ gb159)); have NB159_158 := Aside0.mk ((by rw [hg]; exact Nat.ne_of_gt (blk_lt BK158.out) : gb159 ≠ gb158)); replace BK157 := Aside0.mk (blk_below BK157.out hb); replace BK158 := Aside0.mk (blk_below BK158.out hb); replace HB := Aside0.mk (below_step HB.out hb); clear hb hbox hg; have hnb95 := NB157_158.out; have hnc95 := NB158_157.out; have hnb96 := NB157_159.out; have hnc96 := NB159_157.out; have hcz97_0 : w94.cell? ⟨gb157, 0, none⟩ = some (.int .u8 a0_0) := (blk_cell BK157.out 0).trans rfl; have hcz97_1 : w94.cell? ⟨gb157, 1, none⟩ = some (.int .i64 a0_1) := (blk_cell BK157.out 1).trans rfl; have hcz97_2 : w94.cell? ⟨gb157, 2, none⟩ = some (.int .i64 a0_2) := (blk_cell BK157.out 2).trans rfl; have hcz97_3 : w94.cell? ⟨gb157, 3, none⟩ = some (.int .u8 a0_3) := (blk_cell BK157.out 3).trans rfl; have hcz97_4 : w94.cell? ⟨gb157, 4, none⟩ = some (.int .i64 a0_4) := (blk_cell BK157.out 4).trans rfl; have hfz97_0 := blk_frozen BK157.out 0; have hfz97_1 := blk_frozen BK157.out 1; have hfz97_2 := blk_frozen BK157.out 2; have hfz97_3 := blk_frozen BK157.out 3; have hfz97_4 := blk_frozen BK157.out 4; have hnb98 := NB158_159.out; have hnc98 := NB159_158.out; have hcz99_0 : w94.cell? ⟨gb158, 0, none⟩ = some (.int .i64 a1_0) := (blk_cell BK158.out 0).trans rfl; have hcz99_1 : w94.cell? ⟨gb158, 1, none⟩ = some (.int .i64 a1_1) := (blk_cell BK158.out 1).trans rfl; have hfz99_0 := blk_frozen BK158.out 0; have hfz99_1 := blk_frozen BK158.out 1) | ((with_reducible refine gate_dst (N := 17) rfl ?_); refine Kd.R_lit k33 _ 33 ?hg (N := 17) ?hd (xs := ([(⟨a1_0, a1_1⟩ : S33)] : List (S33))) (inner := [.int .i64 a1_0, .int .i64 a1_1]) (ok := fun _ => True) (okp := fun _ => True) ?hr ?hp (fun _ hk => hk) trivial (Below.refl _ _) (Nat.le_refl _) (by simp) ?_; (case hd => rfl); (case hg => rfl); (case hr => (go_simp; done)); (case hp => exact (Reps.c2 (show Kd.M k33 _ _ _ (⟨a1_0, a1_1⟩ : S33) [.int .i64 a1_0, .int .i64 a1_1] from (k33_mkM _ _ _ (⟨a1_0, a1_1⟩ : S33) )) (Reps.none _ _))); intro v161 w100 ho101 hb hg_ hnew_; clear hg_ hnew_; (rw [← Ny160.out] at ho101); have HO162 := Aside0.mk (Kd.R_lower (Kd.R_newB (Kd.R_newB ho101 BK158.out) BK159.out) (below_size HB.out)); replace BK157 := Aside0.mk (blk_below BK157.out hb); replace BK158 := Aside0.mk (blk_below BK158.out hb); replace BK159 := Aside0.mk (blk_below BK159.out hb); replace HB := Aside0.mk (below_step HB.out hb); clear hb ho101; obtain ⟨Ao102, co102, eo102⟩ := Kd.R_slice HO162.out; subst eo102) | ((with_reducible refine gate_callee (f := 18) rfl ?_); refine goesL_ (some 18) rfl rfl Try.func18 (by kernel_rfl) rfl #[.agg #[.int .u8 a0_0, .int .i64 a0_1, .int .i64 a0_2, .int .u8 a0_3, .int .i64 a0_4], .slice Ao102 y160.length co102] rfl (by (try simp only [List.map_toArray, List.map_cons, List.map_nil]); (rfl)) ?_; (with_reducible refine (fold_of.calls k a0_0 a0_1 a0_2 a0_3 a0_4 _ _ y160 t163 t164 t165 t166 t167 t168 t169 t170 _ ?side1 ?side2 A3.out).mono ?_); (case side1 => repeat (exact (Kd.R_reads' HO162.out).2.2)); (case side2 => exact (Kd.R_reads' HO162.out).2.1); rintro e w103 ⟨rfl, hb⟩; refine ⟨_, rfl, ?_⟩; replace HO162 := Aside0.mk (Kd.R_below HO162.out hb); replace BK157 := Aside0.mk (blk_below BK157.out hb); replace BK158 := Aside0.mk (blk_below BK158.out hb); replace BK159 := Aside0.mk (blk_below BK159.out hb); replace HB := Aside0.mk (below_step HB.out hb); (try clear hb)) | ((with_reducible refine gate_dst (N := 7) rfl ?_); refine box_event ?hg (N := 7) ?hd (cs := #[.int .u8 0, .int .i64 0, .int .i64 0, .int .u8 0, .int .i64 0, .int .i64 0, .int .i64 0]) (t := 56) ?hr ?_; (case hd => rfl); (case hg => rfl); (case hr => (go_simp; done)); intro gb171 hg w104 hbox hb; have BK171 := Aside0.mk hbox; have GW171 := Aside0.mk ((by rw [hg]; exact (below_size HB.out) : w.heap.size ≤ gb171)); have GE171 := Aside0.mk ((by rw [hg]; exact (below_size HB.out) : w.heap.size ≤ gb171)); have NB157_171 := Aside0.mk ((by rw [hg]; exact Nat.ne_of_lt (blk_lt BK157.out) : gb157 ≠ gb171)); have NB171_157 := Aside0.mk ((by rw [hg]; exact Nat.ne_of_gt (blk_lt BK157.out) : gb171 ≠ gb157)); have NB158_171 := Aside0.mk ((by rw [hg]; exact Nat.ne_of_lt (blk_lt BK158.out) : gb158 ≠ gb171)); have NB171_158 := Aside0.mk ((by rw [hg]; exact Nat.ne_of_gt (blk_lt BK158.out) : gb171 ≠ gb158)); have NB159_171 := Aside0.mk ((by rw [hg]; exact Nat.ne_of_lt (blk_lt BK159.out) : gb159 ≠ gb171)); have NB171_159 := Aside0.mk ((by rw [hg]; exact Nat.ne_of_gt (blk_lt BK159.out) : gb171 ≠ gb159)); replace HO162 := Aside0.mk (Kd.R_below HO162.out hb); replace BK157 := Aside0.mk (blk_below BK157.out hb); replace BK158 := Aside0.mk (blk_below BK158.out hb); replace BK159 := Aside0.mk (blk_below BK159.out hb); replace HB := Aside0.mk (below_step HB.out hb); clear hb hbox hg; have hnb105 := NB171_157.out; have hnc105 := NB157_171.out; have hnb106 := NB171_158.out; have hnc106 := NB158_171.out; have hnb107 := NB171_159.out; have hnc107 := NB159_171.out; have hcz108_0 : w104.cell? ⟨gb171, 0, none⟩ = some (.int .u8 0) := (blk_cell BK171.out 0).trans rfl; have hcz108_1 : w104.cell? ⟨gb171, 1, none⟩ = some (.int .i64 0) := (blk_cell BK171.out 1).trans rfl; have hcz108_2 : w104.cell? ⟨gb171, 2, none⟩ = some (.int .i64 0) := (blk_cell BK171.out 2).trans rfl; have hcz108_3 : w104.cell? ⟨gb171, 3, none⟩ = some (.int .u8 0) := (blk_cell BK171.out 3).trans rfl; have hcz108_4 : w104.cell? ⟨gb171, 4, none⟩ = some (.int .i64 0) := (blk_cell BK171.out 4).trans rfl; have hcz108_5 : w104.cell? ⟨gb171, 5, none⟩ = some (.int .i64 0) := (blk_cell BK171.out 5).trans rfl; have hcz108_6 : w104.cell? ⟨gb171, 6, none⟩ = some (.int .i64 0) := (blk_cell BK171.out 6).trans rfl; have hfz108_0 := blk_frozen BK171.out 0; have hfz108_1 := blk_frozen BK171.out 1; have hfz108_2 := blk_frozen BK171.out 2; have hfz108_3 := blk_frozen BK171.out 3; have hfz108_4 := blk_frozen BK171.out 4; have hfz108_5 := blk_frozen BK171.out 5; have hfz108_6 := blk_frozen BK171.out 6; have hcz109_0 : w104.cell? ⟨gb159, 0, none⟩ = some (.int .i64 0) := (blk_cell BK159.out 0).trans rfl; have hcz109_1 : w104.cell? ⟨gb159, 1, none⟩ = some (.int .i64 0) := (blk_cell BK159.out 1).trans rfl; have hfz109_0 := blk_frozen BK159.out 0; have hfz109_1 := blk_frozen BK159.out 1))
    refine bodyPost_ret (results_ctt rfl _ _ gb159 33 #[.int .i64 0, .int .i64 0] (0, 0) _ rfl (by (with_reducible skip); refine blk_put (cs := #[.int .i64 0, .int .i64 0]) ?_ 1 _ rfl; (with_reducible skip); refine blk_put (cs := #[.int .i64 0, .int .i64 0]) ?_ 0 _ rfl; (with_reducible skip); refine blk_far ?_ NB159_171.out _; (with_reducible skip); refine blk_far ?_ NB159_171.out _; (with_reducible skip); refine blk_far ?_ NB159_171.out _; (with_reducible skip); refine blk_far ?_ NB159_171.out _; (with_reducible skip); refine blk_far ?_ NB159_171.out _; (with_reducible skip); refine blk_far ?_ NB159_171.out _; (with_reducible skip); refine blk_far ?_ NB159_171.out _; (with_reducible skip); exact BK159.out) Try.underlying33 rfl (by kernel_rfl)) rfl ?_
    exact ⟨by (rfl), by repeat (with_reducible first | exact HB.out | refine below_set ?_ GE159.out | refine below_set ?_ GE171.out)⟩

end Go.Proofs.Ytfgoplgdhnjkdaa.Be
