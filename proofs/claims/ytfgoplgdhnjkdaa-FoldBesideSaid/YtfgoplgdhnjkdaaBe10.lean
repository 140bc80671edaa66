/- The machine's side of Go functions of this seat: for each a Lean function and a proof that the call comes to what it says. Written by a program of this session (wip/xp) for this claim. -/
import Derived.Test.YtfgoplgdhnjkdaaBe0
import Derived.Test.YtfgoplgdhnjkdaaBe9
namespace Go.Proofs.Ytfgoplgdhnjkdaa.Be
open Go.RowKit Go.Proofs.YtfgoplgdhnjkdaaW.PrintWords Go.Proofs.YtfgoplgdhnjkdaaW.PrintLast Go.Proofs.YtfgoplgdhnjkdaaW.PrintMore
attribute [local go_sem] max2_int min2_int max_two min_two max_three min_three max_four min_four   -- for this text's walks alone
open Go.Proofs.YtfgoplgdhnjkdaaW.XWords
attribute [local go_sem high] binOp_fEq binOp_fNe binOp_fLt binOp_fLe binOp_fGt binOp_fGe binOp_cEq binOp_cNe unOp_fNeg unOp_cNeg equalIn_f64 equalIn_c128
attribute [local go_sem] run_real run_imag run_complex run_store_f64 run_store_c128 run_store_fn
set_option linter.unusedVariables false
set_option linter.unusedSimpArgs false

/-! ### iso_Then: function 31 -/
mutual
def iso_Then.j0 : Nat → Bool → (Nat × Nat) → Bool → (Nat × Nat) → (Nat × Nat) → Bool → (Nat × Nat) → Option ((Nat × Nat) × Bool × (Nat × Nat) × Int)
  | 0, _, _, _, _, _, _, _ => none
  | k + 1, x15, x301000, x301001, x301002, x302000, x302001, x302002 => if x15 = true then (some ((0, 0), false, (0, 0), 50)) else (if x302001 = true then ((iso_conj.f x301000).bind fun t305 => (iso_Then.j1 k t305 x301000 x301001 x301002 x302000 x302001 x302002)) else (iso_Then.j1 k x301000 x301000 x301001 x301002 x302000 x302001 x302002))
def iso_Then.j1 : Nat → (Nat × Nat) → (Nat × Nat) → Bool → (Nat × Nat) → (Nat × Nat) → Bool → (Nat × Nat) → Option ((Nat × Nat) × Bool × (Nat × Nat) × Int)
  | 0, _, _, _, _, _, _, _ => none
  | k + 1, x6, x301000, x301001, x301002, x302000, x302001, x302002 => (cMul x302000.1 x302000.2 x6.1 x6.2).bind fun t306 => ((iso_does.f x302000 x302001 x302002 x301002).bind fun t307 => ((iso_made.f t306 (x301001 != x302001) t307).bind fun bt308 => ((iso_Valid.f bt308.1 bt308.2.1 bt308.2.2).bind fun t312 => (if t312 = true then (some (bt308.1, bt308.2.1, bt308.2.2, 0)) else (some ((0, 0), false, (0, 0), 5))))))
end
def iso_Then.f (k : Nat) (a0_0 : (Nat × Nat)) (a0_1 : Bool) (a0_2 : (Nat × Nat)) (a1_0 : (Nat × Nat)) (a1_1 : Bool) (a1_2 : (Nat × Nat)) : Option ((Nat × Nat) × Bool × (Nat × Nat) × Int) := (iso_Valid.f a0_0 a0_1 a0_2).bind fun t303 => (if t303 = true then ((iso_Valid.f a1_0 a1_1 a1_2).bind fun t304 => (iso_Then.j0 k (!t304) a0_0 a0_1 a0_2 a1_0 a1_1 a1_2)) else (iso_Then.j0 k true a0_0 a0_1 a0_2 a1_0 a1_1 a1_2))
theorem iso_Then.mono_l : ∀ k, (∀ y0 y1 y2 y3 y4 y5 y6, LeO (iso_Then.j0 k y0 y1 y2 y3 y4 y5 y6) (iso_Then.j0 (k + 1) y0 y1 y2 y3 y4 y5 y6)) ∧ (∀ y0 y1 y2 y3 y4 y5 y6, LeO (iso_Then.j1 k y0 y1 y2 y3 y4 y5 y6) (iso_Then.j1 (k + 1) y0 y1 y2 y3 y4 y5 y6))
  | 0 => ⟨fun _ _ _ _ _ _ _ r h => by simp [iso_Then.j0] at h, fun _ _ _ _ _ _ _ r h => by simp [iso_Then.j1] at h⟩
  | k + 1 => by
    obtain ⟨ih0, ih1⟩ := iso_Then.mono_l k
    refine ⟨?_, ?_⟩
    · intro y0 y1 y2 y3 y4 y5 y6
      unfold iso_Then.j0
      repeat' first
      | (with_reducible exact ih1 _ _ _ _ _ _ _)
      | (with_reducible exact LeO.refl _)
      | (with_reducible refine LeO.ite ?_ ?_)
      | (with_reducible refine LeO.bind ?_ (fun _ => ?_))
    · intro y0 y1 y2 y3 y4 y5 y6
      unfold iso_Then.j1
      repeat' first
      | (with_reducible exact LeO.refl _)
theorem iso_Then.mono : ∀ a0 a1 a2 a3 a4 a5 k, LeO (iso_Then.f k a0 a1 a2 a3 a4 a5) (iso_Then.f (k + 1) a0 a1 a2 a3 a4 a5) := by
  intro a0 a1 a2 a3 a4 a5 k
  obtain ⟨ih0, ih1⟩ := iso_Then.mono_l k
  unfold iso_Then.f
  repeat' first
      | (with_reducible exact ih0 _ _ _ _ _ _ _)
      | (with_reducible exact LeO.refl _)
      | (with_reducible refine LeO.ite ?_ ?_)
      | (with_reducible refine LeO.bind ?_ (fun _ => ?_))
def iso_Then.T6 : Bool × List (List Nat × List Nat) := (true, [([], []), ([0], [0]), ([], []), ([1, 2], [1, 2]), ([], []), ([4], [4]), ([], []), ([6], [6]), ([5, 7], [5, 7]), ([], []), ([], []), ([10], [10]), ([9, 11], [9, 11]), ([3, 8, 12, 12], [3, 8, 12]), ([], []), ([14, 13, 13, 0, 1, 2, 3, 4, 5, 6, 7, 8, 9, 10, 11, 12, 13, 14], [13, 14])])
def iso_Then.B6 : List Nat := [0, 1, 0, 7, 0, 16, 0, 64, 240, 0, 0, 1024, 3584, 8191, 0, 32767]
theorem iso_Then.tab6 : rtab .any (opsOf Try.f31 6) = iso_Then.T6 := by kernel_rfl
theorem iso_Then.bits6 : waitsOk iso_Then.T6.2 iso_Then.B6 = true := by kernel_rfl
set_option maxHeartbeats 8000000 in
set_option maxRecDepth 100000 in
theorem iso_Then.calls (k : Nat) (a0_0 : (Nat × Nat)) (a0_1 : Bool) (a0_2 : (Nat × Nat)) (a1_0 : (Nat × Nat)) (a1_1 : Bool) (a1_2 : (Nat × Nat)) (r1 : (Nat × Nat)) (r2 : Bool) (r3 : (Nat × Nat)) (r4 : Int) (w : World) (h : iso_Then.f k a0_0 a0_1 a0_2 a1_0 a1_1 a1_2 = some (r1, r2, r3, r4)) :
    Calls Try.prog 31 #[.agg #[.complex .f64 a0_0.1 a0_0.2, .bool a0_1, .complex .f64 a0_2.1 a0_2.2], .agg #[.complex .f64 a1_0.1 a1_0.2, .bool a1_1, .complex .f64 a1_2.1 a1_2.2]] w fun e w' => e = .returned (.tuple #[.agg #[.complex .f64 r1.1 r1.2, .bool r2, .complex .f64 r3.1 r3.2], .int .i64 r4]) ∧ Below w.heap.size w w' := by
  have hu45 := Try.underlying45
  have HB := Aside0.mk (Below.refl w.heap.size w)
  have H : ((iso_Valid.f a0_0 a0_1 a0_2).bind fun t303 => (if t303 = true then ((iso_Valid.f a1_0 a1_1 a1_2).bind fun t304 => (iso_Then.j0 k (!t304) a0_0 a0_1 a0_2 a1_0 a1_1 a1_2)) else (iso_Then.j0 k true a0_0 a0_1 a0_2 a1_0 a1_1 a1_2))) = some (r1, r2, r3, r4) := h
  clear h
  have HC3 := Aside0.mk H
  clear H
  go_enter Try.func31, Try.ntmps31
  go_upto_region 1 with (first | ((with_reducible refine gate_dst (N := 2) rfl ?_); refine box_event ?hg (N := 2) ?hd (cs := #[.complex .f64 a0_0.1 a0_0.2, .bool a0_1, .complex .f64 a0_2.1 a0_2.2]) (t := 45) ?hr ?_; (case hd => rfl); (case hg => rfl); (case hr => (go_simp; done)); intro gb300 hg w4 hbox hb; have BK300 := Aside0.mk hbox; have GW300 := Aside0.mk ((by rw [hg]; exact (below_size HB.out) : w.heap.size ≤ gb300)); have GE300 := Aside0.mk ((by rw [hg]; exact (below_size HB.out) : w.heap.size ≤ gb300)); replace HB := Aside0.mk (below_step HB.out hb); clear hb hbox hg) | ((with_reducible refine gate_dst (N := 3) rfl ?_); refine box_event ?hg (N := 3) ?hd (cs := #[.complex .f64 a1_0.1 a1_0.2, .bool a1_1, .complex .f64 a1_2.1 a1_2.2]) (t := 45) ?hr ?_; (case hd => rfl); (case hg => rfl); (case hr => (go_simp; done)); intro gb301 hg w5 hbox hb; have BK301 := Aside0.mk hbox; have GW301 := Aside0.mk ((by rw [hg]; exact (below_size HB.out) : w.heap.size ≤ gb301)); have GE301 := Aside0.mk ((by rw [hg]; exact (below_size HB.out) : w.heap.size ≤ gb301)); have NB300_301 := Aside0.mk ((by rw [hg]; exact Nat.ne_of_lt (blk_lt BK300.out) : gb300 ≠ gb301)); have NB301_300 := Aside0.mk ((by rw [hg]; exact Nat.ne_of_gt (blk_lt BK300.out) : gb301 ≠ gb300)); replace BK300 := Aside0.mk (blk_below BK300.out hb); replace HB := Aside0.mk (below_step HB.out hb); clear hb hbox hg) | ((with_reducible refine gate_dst (N := 4) rfl ?_); refine box_event ?hg (N := 4) ?hd (cs := #[.complex .f64 0 0, .bool false, .complex .f64 0 0]) (t := 45) ?hr ?_; (case hd => rfl); (case hg => rfl); (case hr => (go_simp; done)); intro gb302 hg w6 hbox hb; have BK302 := Aside0.mk hbox; have GW302 := Aside0.mk ((by rw [hg]; exact (below_size HB.out) : w.heap.size ≤ gb302)); have GE302 := Aside0.mk ((by rw [hg]; exact (below_size HB.out) : w.heap.size ≤ gb302)); have NB300_302 := Aside0.mk ((by rw [hg]; exact Nat.ne_of_lt (blk_lt BK300.out) : gb300 ≠ gb302)); have NB302_300 := Aside0.mk ((by rw [hg]; exact Nat.ne_of_gt (blk_lt BK300.out) : gb302 ≠ gb300)); have NB301_302 := Aside0.mk ((by rw [hg]; exact Nat.ne_of_lt (blk_lt BK301.out) : gb301 ≠ gb302)); have NB302_301 := Aside0.mk ((by rw [hg]; exact Nat.ne_of_gt (blk_lt BK301.out) : gb302 ≠ gb301)); replace BK300 := Aside0.mk (blk_below BK300.out hb); replace BK301 := Aside0.mk (blk_below BK301.out hb); replace HB := Aside0.mk (below_step HB.out hb); clear hb hbox hg))
  go_cut [15] (fun v15 wc => ∃ (kq : Nat) (x15_2 : Bool), v15 = .bool x15_2 ∧ Aside0 (iso_Then.j0 kq x15_2 a0_0 a0_1 a0_2 a1_0 a1_1 a1_2 = some (r1, r2, r3, r4)) ∧ Aside0 (kq ≤ k) ∧ Aside0 (wc.heap[gb300]? = some (.cells #[.complex .f64 a0_0.1 a0_0.2, .bool a0_1, .complex .f64 a0_2.1 a0_2.2] 45 (0, 0))) ∧ Aside0 (wc.heap[gb301]? = some (.cells #[.complex .f64 a1_0.1 a1_0.2, .bool a1_1, .complex .f64 a1_2.1 a1_2.2] 45 (0, 0))) ∧ Aside0 (wc.heap[gb302]? = some (.cells #[.complex .f64 0 0, .bool false, .complex .f64 0 0] 45 (0, 0))) ∧ Aside0 (Below w.heap.size w wc))
  case first =>
    have H := HC3.out
    clear HC3
    replace H := Option.bind_eq_some_iff.mp H
    obtain ⟨t303, A70, H⟩ := H
    replace H : (if t303 = true then ((iso_Valid.f a1_0 a1_1 a1_2).bind fun t304 => (iso_Then.j0 k (!t304) a0_0 a0_1 a0_2 a1_0 a1_1 a1_2)) else (iso_Then.j0 k true a0_0 a0_1 a0_2 a1_0 a1_1 a1_2)) = some (r1, r2, r3, r4) := H
    have A7 := Aside0.mk A70
    clear A70
    by_cases c8 : t303 = true
    · subst c8
      have H1 : ((iso_Valid.f a1_0 a1_1 a1_2).bind fun t304 => (iso_Then.j0 k (!t304) a0_0 a0_1 a0_2 a1_0 a1_1 a1_2)) = some (r1, r2, r3, r4) := by rw [if_pos rfl] at H; exact H
      clear H
      have H := H1
      clear H1
      replace H := Option.bind_eq_some_iff.mp H
      obtain ⟨t304, A90, H⟩ := H
      replace H : (iso_Then.j0 k (!t304) a0_0 a0_1 a0_2 a1_0 a1_1 a1_2) = some (r1, r2, r3, r4) := H
      have A9 := Aside0.mk A90
      clear A90
      have H' := Aside0.mk H
      clear H
      have hnb10 := NB300_301.out
      have hnc10 := NB301_300.out
      have hnb11 := NB300_302.out
      have hnc11 := NB302_300.out
      have hcz12_0 : w6.cell? ⟨gb300, 0, none⟩ = some (.complex .f64 a0_0.1 a0_0.2) := (blk_cell BK300.out 0).trans rfl
      have hcz12_1 : w6.cell? ⟨gb300, 1, none⟩ = some (.bool a0_1) := (blk_cell BK300.out 1).trans rfl
      have hcz12_2 : w6.cell? ⟨gb300, 2, none⟩ = some (.complex .f64 a0_2.1 a0_2.2) := (blk_cell BK300.out 2).trans rfl
      have hfz12_0 := blk_frozen BK300.out 0
      have hfz12_1 := blk_frozen BK300.out 1
      have hfz12_2 := blk_frozen BK300.out 2
      go_wp2_with (first | ((with_reducible refine gate_callee (f := 25) rfl ?_); refine goesL_ (some 9) rfl rfl Try.func25 (by kernel_rfl) rfl #[.agg #[.complex .f64 a0_0.1 a0_0.2, .bool a0_1, .complex .f64 a0_2.1 a0_2.2]] rfl (by (try simp only [List.map_toArray, List.map_cons, List.map_nil]); (rfl)) ?_; (with_reducible refine (iso_Valid.calls a0_0 a0_1 a0_2 true _ A7.out).mono ?_); rintro e w13 ⟨rfl, hb⟩; refine ⟨_, rfl, ?_⟩; replace BK300 := Aside0.mk (blk_below BK300.out hb); replace BK301 := Aside0.mk (blk_below BK301.out hb); replace BK302 := Aside0.mk (blk_below BK302.out hb); replace HB := Aside0.mk (below_step HB.out hb); (try clear hb); have hnb14 := NB301_302.out; have hnc14 := NB302_301.out; have hcz15_0 : w13.cell? ⟨gb301, 0, none⟩ = some (.complex .f64 a1_0.1 a1_0.2) := (blk_cell BK301.out 0).trans rfl; have hcz15_1 : w13.cell? ⟨gb301, 1, none⟩ = some (.bool a1_1) := (blk_cell BK301.out 1).trans rfl; have hcz15_2 : w13.cell? ⟨gb301, 2, none⟩ = some (.complex .f64 a1_2.1 a1_2.2) := (blk_cell BK301.out 2).trans rfl; have hfz15_0 := blk_frozen BK301.out 0; have hfz15_1 := blk_frozen BK301.out 1; have hfz15_2 := blk_frozen BK301.out 2) | (go_at_call 25; (with_reducible refine (iso_Valid.calls a1_0 a1_1 a1_2 t304 _ A9.out).mono ?_); rintro e w16 ⟨rfl, hb⟩; replace BK300 := Aside0.mk (blk_below BK300.out hb); replace BK301 := Aside0.mk (blk_below BK301.out hb); replace BK302 := Aside0.mk (blk_below BK302.out hb); replace HB := Aside0.mk (below_step HB.out hb); (try clear hb)))
      go_meet
      case rel => exact ⟨_, (!t304), (by (rfl)), H', ⟨by (omega)⟩, ⟨by (with_reducible skip); exact BK300.out⟩, ⟨by (with_reducible skip); exact BK301.out⟩, ⟨by (with_reducible skip); exact BK302.out⟩, ⟨by repeat (with_reducible (exact HB.out))⟩⟩
    · replace c8 := Bool.eq_false_iff.mpr c8
      subst c8
      have H1 : (iso_Then.j0 k true a0_0 a0_1 a0_2 a1_0 a1_1 a1_2) = some (r1, r2, r3, r4) := by rw [if_neg (show ¬ (false = true) by decide)] at H; exact H
      clear H
      have H := H1
      clear H1
      have H' := Aside0.mk H
      clear H
      have hnb17 := NB300_301.out
      have hnc17 := NB301_300.out
      have hnb18 := NB300_302.out
      have hnc18 := NB302_300.out
      have hcz19_0 : w6.cell? ⟨gb300, 0, none⟩ = some (.complex .f64 a0_0.1 a0_0.2) := (blk_cell BK300.out 0).trans rfl
      have hcz19_1 : w6.cell? ⟨gb300, 1, none⟩ = some (.bool a0_1) := (blk_cell BK300.out 1).trans rfl
      have hcz19_2 : w6.cell? ⟨gb300, 2, none⟩ = some (.complex .f64 a0_2.1 a0_2.2) := (blk_cell BK300.out 2).trans rfl
      have hfz19_0 := blk_frozen BK300.out 0
      have hfz19_1 := blk_frozen BK300.out 1
      have hfz19_2 := blk_frozen BK300.out 2
      go_wp2_with ((((with_reducible refine gate_callee (f := 25) rfl ?_); refine goesL_ (some 9) rfl rfl Try.func25 (by kernel_rfl) rfl #[.agg #[.complex .f64 a0_0.1 a0_0.2, .bool a0_1, .complex .f64 a0_2.1 a0_2.2]] rfl (by (try simp only [List.map_toArray, List.map_cons, List.map_nil]); (rfl)) ?_; (with_reducible refine (iso_Valid.calls a0_0 a0_1 a0_2 false _ A7.out).mono ?_); rintro e w20 ⟨rfl, hb⟩; refine ⟨_, rfl, ?_⟩; replace BK300 := Aside0.mk (blk_below BK300.out hb); replace BK301 := Aside0.mk (blk_below BK301.out hb); replace BK302 := Aside0.mk (blk_below BK302.out hb); replace HB := Aside0.mk (below_step HB.out hb); (try clear hb))))
      go_meet
      case rel => exact ⟨_, (true), (by (rfl)), H', ⟨by (omega)⟩, ⟨by (with_reducible skip); exact BK300.out⟩, ⟨by (with_reducible skip); exact BK301.out⟩, ⟨by (with_reducible skip); exact BK302.out⟩, ⟨by repeat (with_reducible (exact HB.out))⟩⟩
  case rest =>
    clear HC3
    obtain ⟨kq, x15_2, rfl, HA, HJ2, BK300, BK301, BK302, HB⟩ := hcut
    cases kq with
    | zero => exact absurd HA.out (by simp [iso_Then.j0])
    | succ kj2 =>
      have H := HA.out
      clear HA
      simp only [iso_Then.j0] at H
      by_cases c21 : x15_2 = true
      · subst c21
        have H1 : (some ((0, 0), false, (0, 0), 50)) = some (r1, r2, r3, r4) := by rw [if_pos rfl] at H; exact H
        clear H
        have H := H1
        clear H1
        simp only [Option.some.injEq, Prod.mk.injEq] at H
        obtain ⟨rfl, rfl, rfl, rfl⟩ := H
        have hnb22 := NB302_300.out
        have hnc22 := NB300_302.out
        have hnb23 := NB302_301.out
        have hnc23 := NB301_302.out
        have hcz24_0 : wc.cell? ⟨gb302, 0, none⟩ = some (.complex .f64 0 0) := (blk_cell BK302.out 0).trans rfl
        have hcz24_1 : wc.cell? ⟨gb302, 1, none⟩ = some (.bool false) := (blk_cell BK302.out 1).trans rfl
        have hcz24_2 : wc.cell? ⟨gb302, 2, none⟩ = some (.complex .f64 0 0) := (blk_cell BK302.out 2).trans rfl
        have hfz24_0 := blk_frozen BK302.out 0
        have hfz24_1 := blk_frozen BK302.out 1
        have hfz24_2 := blk_frozen BK302.out 2
        go_wp2
        refine bodyPost_ret (results_ct rfl _ _ gb302 45 #[.complex .f64 0 0, .bool false, .complex .f64 0 0] (0, 0) _ rfl (by (with_reducible skip); refine blk_put (cs := #[.complex .f64 0 0, .bool false, .complex .f64 0 0]) ?_ 2 _ rfl; (with_reducible skip); refine blk_put (cs := #[.complex .f64 0 0, .bool false, .complex .f64 0 0]) ?_ 1 _ rfl; (with_reducible skip); refine blk_put (cs := #[.complex .f64 0 0, .bool false, .complex .f64 0 0]) ?_ 0 _ rfl; (with_reducible skip); exact BK302.out) Try.underlying45 rfl (by kernel_rfl)) rfl ?_
        exact ⟨by (rfl), by repeat (with_reducible first | exact HB.out | refine below_set ?_ GE302.out)⟩
      · replace c21 := Bool.eq_false_iff.mpr c21
        subst c21
        have H1 : (if a1_1 = true then ((iso_conj.f a0_0).bind fun t305 => (iso_Then.j1 kj2 t305 a0_0 a0_1 a0_2 a1_0 a1_1 a1_2)) else (iso_Then.j1 kj2 a0_0 a0_0 a0_1 a0_2 a1_0 a1_1 a1_2)) = some (r1, r2, r3, r4) := by rw [if_neg (show ¬ (false = true) by decide)] at H; exact H
        clear H
        have H := H1
        clear H1
        have HC25 := Aside0.mk H
        clear H
        have hnb26 := NB300_301.out
        have hnc26 := NB301_300.out
        have hnb27 := NB300_302.out
        have hnc27 := NB302_300.out
        have hcz28_0 : wc.cell? ⟨gb300, 0, none⟩ = some (.complex .f64 a0_0.1 a0_0.2) := (blk_cell BK300.out 0).trans rfl
        have hcz28_1 : wc.cell? ⟨gb300, 1, none⟩ = some (.bool a0_1) := (blk_cell BK300.out 1).trans rfl
        have hcz28_2 : wc.cell? ⟨gb300, 2, none⟩ = some (.complex .f64 a0_2.1 a0_2.2) := (blk_cell BK300.out 2).trans rfl
        have hfz28_0 := blk_frozen BK300.out 0
        have hfz28_1 := blk_frozen BK300.out 1
        have hfz28_2 := blk_frozen BK300.out 2
        have hnb29 := NB301_302.out
        have hnc29 := NB302_301.out
        have hcz30_0 : wc.cell? ⟨gb301, 0, none⟩ = some (.complex .f64 a1_0.1 a1_0.2) := (blk_cell BK301.out 0).trans rfl
        have hcz30_1 : wc.cell? ⟨gb301, 1, none⟩ = some (.bool a1_1) := (blk_cell BK301.out 1).trans rfl
        have hcz30_2 : wc.cell? ⟨gb301, 2, none⟩ = some (.complex .f64 a1_2.1 a1_2.2) := (blk_cell BK301.out 2).trans rfl
        have hfz30_0 := blk_frozen BK301.out 0
        have hfz30_1 := blk_frozen BK301.out 1
        have hfz30_2 := blk_frozen BK301.out 2
        go_upto_if 20 with (fail)
        go_cut [6] (fun v6 wc => ∃ (kq : Nat) (x6_24 : (Nat × Nat)), v6 = .complex .f64 x6_24.1 x6_24.2 ∧ Aside0 (iso_Then.j1 kq x6_24 a0_0 a0_1 a0_2 a1_0 a1_1 a1_2 = some (r1, r2, r3, r4)) ∧ Aside0 (kq ≤ kj2) ∧ Aside0 (wc.heap[gb300]? = some (.cells #[.complex .f64 a0_0.1 a0_0.2, .bool a0_1, .complex .f64 a0_2.1 a0_2.2] 45 (0, 0))) ∧ Aside0 (wc.heap[gb301]? = some (.cells #[.complex .f64 a1_0.1 a1_0.2, .bool a1_1, .complex .f64 a1_2.1 a1_2.2] 45 (0, 0))) ∧ Aside0 (wc.heap[gb302]? = some (.cells #[.complex .f64 0 0, .bool false, .complex .f64 0 0] 45 (0, 0))) ∧ Aside0 (Below w.heap.size w wc))
        case first =>
          have H := HC25.out
          clear HC25
          by_cases c31 : a1_1 = true
          · subst c31
            have H1 : ((iso_conj.f a0_0).bind fun t305 => (iso_Then.j1 kj2 t305 a0_0 a0_1 a0_2 a1_0 true a1_2)) = some (r1, r2, r3, r4) := by rw [if_pos rfl] at H; exact H
            clear H
            have H := H1
            clear H1
            replace H := Option.bind_eq_some_iff.mp H
            obtain ⟨t305, A320, H⟩ := H
            replace H : (iso_Then.j1 kj2 t305 a0_0 a0_1 a0_2 a1_0 true a1_2) = some (r1, r2, r3, r4) := H
            have A32 := Aside0.mk A320
            clear A320
            have H' := Aside0.mk H
            clear H
            go_wp2_with ((((with_reducible refine gate_callee (f := 26) rfl ?_); refine goesL_ (some 22) rfl rfl Try.func26 (by kernel_rfl) rfl #[.complex .f64 a0_0.1 a0_0.2] rfl (by (try simp only [List.map_toArray, List.map_cons, List.map_nil]); (rfl)) ?_; (with_reducible refine (iso_conj.calls a0_0 t305 _ A32.out).mono ?_); rintro e w33 ⟨rfl, hb⟩; refine ⟨_, rfl, ?_⟩; replace BK300 := Aside0.mk (blk_below BK300.out hb); replace BK301 := Aside0.mk (blk_below BK301.out hb); replace BK302 := Aside0.mk (blk_below BK302.out hb); replace HB := Aside0.mk (below_step HB.out hb); (try clear hb))))
            go_meet
            case rel => exact ⟨_, (t305), (by (rfl)), H', ⟨by have := HJ2.out; (omega)⟩, ⟨by (with_reducible skip); exact BK300.out⟩, ⟨by (with_reducible skip); exact BK301.out⟩, ⟨by (with_reducible skip); exact BK302.out⟩, ⟨by repeat (with_reducible (exact HB.out))⟩⟩
          · replace c31 := Bool.eq_false_iff.mpr c31
            subst c31
            have H1 : (iso_Then.j1 kj2 a0_0 a0_0 a0_1 a0_2 a1_0 false a1_2) = some (r1, r2, r3, r4) := by rw [if_neg (show ¬ (false = true) by decide)] at H; exact H
            clear H
            have H := H1
            clear H1
            have H' := Aside0.mk H
            clear H
            go_wp2
            go_meet
            case rel => exact ⟨_, (a0_0), (by (rfl)), H', ⟨by have := HJ2.out; (omega)⟩, ⟨by (with_reducible skip); exact BK300.out⟩, ⟨by (with_reducible skip); exact BK301.out⟩, ⟨by (with_reducible skip); exact BK302.out⟩, ⟨by repeat (with_reducible (exact HB.out))⟩⟩
        case rest =>
          clear HC25
          try clear hcz28_0
          try clear hcz28_1
          try clear hcz28_2
          try clear hcz30_0
          try clear hcz30_1
          try clear hcz30_2
          try clear hfz28_0
          try clear hfz28_1
          try clear hfz28_2
          try clear hfz30_0
          try clear hfz30_1
          try clear hfz30_2
          obtain ⟨kq, x6_24, rfl, HA, HJ24, BK300, BK301, BK302, HB⟩ := hcut
          cases kq with
          | zero => exact absurd HA.out (by simp [iso_Then.j1])
          | succ kj24 =>
            have H := HA.out
            clear HA
            simp only [iso_Then.j1] at H
            replace H := Option.bind_eq_some_iff.mp H
            obtain ⟨t306, A340, H⟩ := H
            replace H : ((iso_does.f a1_0 a1_1 a1_2 a0_2).bind fun t307 => ((iso_made.f t306 (a0_1 != a1_1) t307).bind fun bt308 => ((iso_Valid.f bt308.1 bt308.2.1 bt308.2.2).bind fun t312 => (if t312 = true then (some (bt308.1, bt308.2.1, bt308.2.2, 0)) else (some ((0, 0), false, (0, 0), 5)))))) = some (r1, r2, r3, r4) := H
            have A34f := fun (t_ : TypeId) (W_ : World) => run_cMul (P := Try.prog) A340 t_ W_
            have A34 := Aside0.mk A340
            clear A340
            replace H := Option.bind_eq_some_iff.mp H
            obtain ⟨t307, A350, H⟩ := H
            replace H : ((iso_made.f t306 (a0_1 != a1_1) t307).bind fun bt308 => ((iso_Valid.f bt308.1 bt308.2.1 bt308.2.2).bind fun t312 => (if t312 = true then (some (bt308.1, bt308.2.1, bt308.2.2, 0)) else (some ((0, 0), false, (0, 0), 5))))) = some (r1, r2, r3, r4) := H
            have A35 := Aside0.mk A350
            clear A350
            replace H := Option.bind_eq_some_iff.mp H
            obtain ⟨⟨t308, t309, t310⟩, A360, H⟩ := H
            replace H : ((iso_Valid.f t308 t309 t310).bind fun t312 => (if t312 = true then (some (t308, t309, t310, 0)) else (some ((0, 0), false, (0, 0), 5)))) = some (r1, r2, r3, r4) := H
            have A36 := Aside0.mk A360
            clear A360
            replace H := Option.bind_eq_some_iff.mp H
            obtain ⟨t312, A370, H⟩ := H
            replace H : (if t312 = true then (some (t308, t309, t310, 0)) else (some ((0, 0), false, (0, 0), 5))) = some (r1, r2, r3, r4) := H
            have A37 := Aside0.mk A370
            clear A370
            by_cases c38 : t312 = true
            · subst c38
              have H1 : (some (t308, t309, t310, 0)) = some (r1, r2, r3, r4) := by rw [if_pos rfl] at H; exact H
              clear H
              have H := H1
              clear H1
              simp only [Option.some.injEq, Prod.mk.injEq] at H
              obtain ⟨rfl, rfl, rfl, rfl⟩ := H
              try go_wp2
              replace BK300 := Aside0.mk (blk_drew BK300.out)
              replace BK301 := Aside0.mk (blk_drew BK301.out)
              replace BK302 := Aside0.mk (blk_drew BK302.out)
              replace HB := Aside0.mk (below_drew1 HB.out)
              refine start_ (n := 16) (S := fun w' => w'.cell? ⟨gb301, 0, none⟩ = some (.complex .f64 a1_0.1 a1_0.2) ∧ w'.cell? ⟨gb301, 1, none⟩ = some (.bool a1_1) ∧ w'.cell? ⟨gb301, 2, none⟩ = some (.complex .f64 a1_2.1 a1_2.2) ∧ w'.cell? ⟨gb300, 0, none⟩ = some (.complex .f64 a0_0.1 a0_0.2) ∧ w'.cell? ⟨gb300, 1, none⟩ = some (.bool a0_1) ∧ w'.cell? ⟨gb300, 2, none⟩ = some (.complex .f64 a0_2.1 a0_2.2)) (ds := []) #[false, false, false, false, false, false, false, false, false, false, false, false, false, false, false, false] (by kernel_rfl) rfl rfl ⟨(blk_cell BK301.out 0).trans rfl, (blk_cell BK301.out 1).trans rfl, (blk_cell BK301.out 2).trans rfl, (blk_cell BK300.out 0).trans rfl, (blk_cell BK300.out 1).trans rfl, (blk_cell BK300.out 2).trans rfl⟩ (fun hHeld => ?_); refine with_tabW iso_Then.tab6 iso_Then.bits6 (fun HT_ HW_ => ?_)
              generalize wc.drew = w39 at BK300 BK301 BK302 HB hHeld ⊢
              refine pure_ (i := 0) (N := some 23) (v := ?_) (a' := ?_) #[true, false, false, false, false, false, false, false, false, false, false, false, false, false, false, false] rfl rfl (any_of HT_.out (by kernel_rfl)) (fun _ _ _ h => h) (Or.inl ⟨by rfl, ?_⟩) ?_ ?_
              rotate_left
              · intro w'
                go_simp
                with_reducible rfl
              rotate_left
              · simp only [Act.put, List.setIfInBounds_toArray, List.set_cons_zero, List.set_cons_succ, i64_w, i32_w]
                rfl
              refine pure_ (i := 2) (N := some 25) (v := ?_) (a' := ?_) #[true, false, true, false, false, false, false, false, false, false, false, false, false, false, false, false] rfl rfl (any_of HT_.out (by kernel_rfl)) (fun _ _ _ h => h) (Or.inl ⟨by rfl, ?_⟩) ?_ ?_
              rotate_left
              · intro w'
                go_simp
                with_reducible rfl
              rotate_left
              · simp only [Act.put, List.setIfInBounds_toArray, List.set_cons_zero, List.set_cons_succ, i64_w, i32_w]
                rfl
              refine pure_ (i := 4) (N := some 27) (v := ?_) (a' := ?_) #[true, false, true, false, true, false, false, false, false, false, false, false, false, false, false, false] rfl rfl (any_of HT_.out (by kernel_rfl)) (fun _ _ _ h => h) (Or.inl ⟨by rfl, ?_⟩) ?_ ?_
              rotate_left
              · intro w'
                go_simp
                with_reducible rfl
              rotate_left
              · simp only [Act.put, List.setIfInBounds_toArray, List.set_cons_zero, List.set_cons_succ, i64_w, i32_w]
                rfl
              refine pure_ (i := 6) (N := some 29) (v := ?_) (a' := ?_) #[true, false, true, false, true, false, true, false, false, false, false, false, false, false, false, false] rfl rfl (any_of HT_.out (by kernel_rfl)) (fun _ _ _ h => h) (Or.inl ⟨by rfl, ?_⟩) ?_ ?_
              rotate_left
              · intro w'
                go_simp
                with_reducible rfl
              rotate_left
              · simp only [Act.put, List.setIfInBounds_toArray, List.set_cons_zero, List.set_cons_succ, i64_w, i32_w]
                rfl
              refine pure_ (i := 10) (N := some 33) (v := ?_) (a' := ?_) #[true, false, true, false, true, false, true, false, false, false, true, false, false, false, false, false] rfl rfl (any_of HT_.out (by kernel_rfl)) (fun _ _ _ h => h) (Or.inl ⟨by rfl, ?_⟩) ?_ ?_
              rotate_left
              · intro w'
                go_simp
                with_reducible rfl
              rotate_left
              · simp only [Act.put, List.setIfInBounds_toArray, List.set_cons_zero, List.set_cons_succ, i64_w, i32_w]
                rfl
              refine take_ (i := 1) (N := some 24) (v := ?_) (a' := ?_) #[true, true, true, false, true, false, true, false, false, false, true, false, false, false, false, false] rfl rfl (take_ofW HT_.out HW_.out (by kernel_rfl)) (fun _ _ _ h => h) (Or.inl ⟨by rfl, ?_⟩) hHeld ?_ ?_
              rotate_left
              · rintro w' ⟨s0, s1, s2, s3, s4, s5⟩
                go_simp
                with_reducible rfl
              rotate_left
              · simp only [Act.put, List.setIfInBounds_toArray, List.set_cons_zero, List.set_cons_succ, i64_w, i32_w]
                rfl
              refine pure_ (i := 3) (N := some 26) (v := ?_) (a' := ?_) #[true, true, true, true, true, false, true, false, false, false, true, false, false, false, false, false] rfl rfl (any_of HT_.out (by kernel_rfl)) (fun _ _ _ h => h) (Or.inl ⟨by rfl, ?_⟩) ?_ ?_
              rotate_left
              · intro w'
                go_simp
                with_reducible rfl
              rotate_left
              · simp only [Act.put, List.setIfInBounds_toArray, List.set_cons_zero, List.set_cons_succ, i64_w, i32_w]
                rfl
              refine take_ (i := 5) (N := some 28) (v := ?_) (a' := ?_) #[true, true, true, true, true, true, true, false, false, false, true, false, false, false, false, false] rfl rfl (take_ofW HT_.out HW_.out (by kernel_rfl)) (fun _ _ _ h => h) (Or.inl ⟨by rfl, ?_⟩) hHeld ?_ ?_
              rotate_left
              · rintro w' ⟨s0, s1, s2, s3, s4, s5⟩
                go_simp
                with_reducible rfl
              rotate_left
              · simp only [Act.put, List.setIfInBounds_toArray, List.set_cons_zero, List.set_cons_succ, i64_w, i32_w]
                rfl
              refine take_ (i := 7) (N := some 30) (v := ?_) (a' := ?_) #[true, true, true, true, true, true, true, true, false, false, true, false, false, false, false, false] rfl rfl (take_ofW HT_.out HW_.out (by kernel_rfl)) (fun _ _ _ h => h) (Or.inl ⟨by rfl, ?_⟩) hHeld ?_ ?_
              rotate_left
              · rintro w' ⟨s0, s1, s2, s3, s4, s5⟩
                go_simp
                with_reducible rfl
              rotate_left
              · simp only [Act.put, List.setIfInBounds_toArray, List.set_cons_zero, List.set_cons_succ, i64_w, i32_w]
                rfl
              refine pure_ (i := 8) (N := some 31) (v := ?_) (a' := ?_) #[true, true, true, true, true, true, true, true, true, false, true, false, false, false, false, false] rfl rfl (any_of HT_.out (by kernel_rfl)) (fun _ _ _ h => h) (Or.inl ⟨by rfl, ?_⟩) ?_ ?_
              rotate_left
              · intro w'
                go_simp
                with_reducible rfl
              rotate_left
              · simp only [Act.put, List.setIfInBounds_toArray, List.set_cons_zero, List.set_cons_succ, i64_w, i32_w]
                rfl
              refine take_ (i := 9) (N := some 32) (v := ?_) (a' := ?_) #[true, true, true, true, true, true, true, true, true, true, true, false, false, false, false, false] rfl rfl (take_ofW HT_.out HW_.out (by kernel_rfl)) (fun _ _ _ h => h) (Or.inl ⟨by rfl, ?_⟩) hHeld ?_ ?_
              rotate_left
              · rintro w' ⟨s0, s1, s2, s3, s4, s5⟩
                go_simp
                with_reducible rfl
              rotate_left
              · simp only [Act.put, List.setIfInBounds_toArray, List.set_cons_zero, List.set_cons_succ, i64_w, i32_w]
                rfl
              refine take_ (i := 11) (N := some 34) (v := ?_) (a' := ?_) #[true, true, true, true, true, true, true, true, true, true, true, true, false, false, false, false] rfl rfl (take_ofW HT_.out HW_.out (by kernel_rfl)) (fun _ _ _ h => h) (Or.inl ⟨by rfl, ?_⟩) hHeld ?_ ?_
              rotate_left
              · rintro w' ⟨s0, s1, s2, s3, s4, s5⟩
                go_simp
                with_reducible rfl
              rotate_left
              · simp only [Act.put, List.setIfInBounds_toArray, List.set_cons_zero, List.set_cons_succ, i64_w, i32_w]
                rfl
              refine join_ (σ := Nat) 1 #[true, true, true, true, true, true, true, true, true, true, true, true, true, true, true, false] (fun s_ => [(35, .complex .f64 t307.1 t307.2), (36, .agg #[.complex .f64 t308.1 t308.2, .bool t309, .complex .f64 t310.1 t310.2]), (7, .pointer (some ⟨s_, 0, none⟩))]) (fun s_ w' => (w'.cell? ⟨gb301, 0, none⟩ = some (.complex .f64 a1_0.1 a1_0.2) ∧ w'.cell? ⟨gb301, 1, none⟩ = some (.bool a1_1) ∧ w'.cell? ⟨gb301, 2, none⟩ = some (.complex .f64 a1_2.1 a1_2.2) ∧ w'.cell? ⟨gb300, 0, none⟩ = some (.complex .f64 a0_0.1 a0_0.2) ∧ w'.cell? ⟨gb300, 1, none⟩ = some (.bool a0_1) ∧ w'.cell? ⟨gb300, 2, none⟩ = some (.complex .f64 a0_2.1 a0_2.2)) ∧ (w'.heap[gb300]? = some (.cells #[.complex .f64 a0_0.1 a0_0.2, .bool a0_1, .complex .f64 a0_2.1 a0_2.2] 45 (0, 0))) ∧ (w'.heap[gb301]? = some (.cells #[.complex .f64 a1_0.1 a1_0.2, .bool a1_1, .complex .f64 a1_2.1 a1_2.2] 45 (0, 0))) ∧ (w'.heap[gb302]? = some (.cells #[.complex .f64 0 0, .bool false, .complex .f64 0 0] 45 (0, 0))) ∧ (w'.heap[s_]? = some (.cells #[.complex .f64 0 0, .bool false, .complex .f64 0 0] 45 (0, 0))) ∧ (w.heap.size ≤ s_) ∧ (w.heap.size ≤ s_) ∧ (gb300 ≠ s_) ∧ (s_ ≠ gb300) ∧ (gb301 ≠ s_) ∧ (s_ ≠ gb301) ∧ (gb302 ≠ s_) ∧ (s_ ≠ gb302) ∧ (Below w.heap.size w w')) ?_ ?_
              rotate_left
              · intro hCont
                refine two_ (i := 12) (j := 14) (Ni := some 35) (Nj := some 7) #[true, true, true, true, true, true, true, true, true, true, true, true, true, false, false, false] #[true, true, true, true, true, true, true, true, true, true, true, true, false, false, true, false] rfl rfl rfl rfl (two_of HT_.out (by kernel_rfl)) (by decide) (by decide) (fun K hK => ?_) (fun K hK => ?_)
                · skip
                  refine goes_ Try.func28 (by kernel_rfl) rfl #[.agg #[.complex .f64 a1_0.1 a1_0.2, .bool a1_1, .complex .f64 a1_2.1 a1_2.2], .complex .f64 a0_2.1 a0_2.2] (by rfl) rfl rfl (by (try simp only [List.map_toArray, List.map_cons, List.map_nil]); (rfl)) ?_
                  with_reducible refine (iso_does.calls a1_0 a1_1 a1_2 a0_2 t307 _ A35.out).mono ?_
                  rintro e w40 ⟨rfl, hb⟩
                  refine ⟨_, rfl, ?_⟩
                  replace BK300 := Aside0.mk (blk_below BK300.out hb)
                  replace BK301 := Aside0.mk (blk_below BK301.out hb)
                  replace BK302 := Aside0.mk (blk_below BK302.out hb)
                  replace HB := Aside0.mk (below_step HB.out hb)
                  (try clear hb)
                  refine hK.out _ _ ⟨(blk_cell BK301.out 0).trans rfl, (blk_cell BK301.out 1).trans rfl, (blk_cell BK301.out 2).trans rfl, (blk_cell BK300.out 0).trans rfl, (blk_cell BK300.out 1).trans rfl, (blk_cell BK300.out 2).trans rfl⟩ (fun hHeld => ?_)
                  clear hK K
                  refine norm_ (a' := ?_) ?_ ?_
                  rotate_left
                  · show Act.put _ (some 35) _ = _
                    simp only [Act.put, List.setIfInBounds_toArray, List.set_cons_zero, List.set_cons_succ, i64_w, i32_w]
                    rfl
                  refine two_ (i := 13) (j := 14) (Ni := some 36) (Nj := some 7) #[true, true, true, true, true, true, true, true, true, true, true, true, true, true, false, false] #[true, true, true, true, true, true, true, true, true, true, true, true, true, false, true, false] rfl rfl rfl rfl (two_of HT_.out (by kernel_rfl)) (by decide) (by decide) (fun K hK => ?_) (fun K hK => ?_)
                  · skip
                    refine goes_ Try.func27 (by kernel_rfl) rfl #[.complex .f64 t306.1 t306.2, .bool (a0_1 != a1_1), .complex .f64 t307.1 t307.2] (by rfl) rfl rfl (by (try simp only [List.map_toArray, List.map_cons, List.map_nil]); (rfl)) ?_
                    with_reducible refine (iso_made.calls t306 (a0_1 != a1_1) t307 t308 t309 t310 _ A36.out).mono ?_
                    rintro e w41 ⟨rfl, hb⟩
                    refine ⟨_, rfl, ?_⟩
                    replace BK300 := Aside0.mk (blk_below BK300.out hb)
                    replace BK301 := Aside0.mk (blk_below BK301.out hb)
                    replace BK302 := Aside0.mk (blk_below BK302.out hb)
                    replace HB := Aside0.mk (below_step HB.out hb)
                    (try clear hb)
                    refine hK.out _ _ ⟨(blk_cell BK301.out 0).trans rfl, (blk_cell BK301.out 1).trans rfl, (blk_cell BK301.out 2).trans rfl, (blk_cell BK300.out 0).trans rfl, (blk_cell BK300.out 1).trans rfl, (blk_cell BK300.out 2).trans rfl⟩ (fun hHeld => ?_)
                    clear hK K
                    refine norm_ (a' := ?_) ?_ ?_
                    rotate_left
                    · show Act.put _ (some 36) _ = _
                      simp only [Act.put, List.setIfInBounds_toArray, List.set_cons_zero, List.set_cons_succ, i64_w, i32_w]
                      rfl
                    refine one_ (i := 14) (N := some 7) #[true, true, true, true, true, true, true, true, true, true, true, true, true, true, true, false] rfl rfl (one_of HT_.out (by kernel_rfl)) (by decide) (fun K hK => ?_)
                    refine box_step ?hg (N := 7) ?hd (cs := #[.complex .f64 0 0, .bool false, .complex .f64 0 0]) (t := 45) ?hr ?_; (case hd => rfl); (case hg => rfl); (case hr => (go_simp; done))
                    intro gb311 hg w42 hbox hb
                    have BK311 := Aside0.mk (hbox)
                    have GW311 := Aside0.mk ((by rw [hg]; exact (below_size HB.out) : w.heap.size ≤ gb311))
                    have GE311 := Aside0.mk ((by rw [hg]; exact (below_size HB.out) : w.heap.size ≤ gb311))
                    have NB300_311 := Aside0.mk ((by rw [hg]; exact Nat.ne_of_lt (blk_lt BK300.out) : gb300 ≠ gb311))
                    have NB311_300 := Aside0.mk ((by rw [hg]; exact Nat.ne_of_gt (blk_lt BK300.out) : gb311 ≠ gb300))
                    have NB301_311 := Aside0.mk ((by rw [hg]; exact Nat.ne_of_lt (blk_lt BK301.out) : gb301 ≠ gb311))
                    have NB311_301 := Aside0.mk ((by rw [hg]; exact Nat.ne_of_gt (blk_lt BK301.out) : gb311 ≠ gb301))
                    have NB302_311 := Aside0.mk ((by rw [hg]; exact Nat.ne_of_lt (blk_lt BK302.out) : gb302 ≠ gb311))
                    have NB311_302 := Aside0.mk ((by rw [hg]; exact Nat.ne_of_gt (blk_lt BK302.out) : gb311 ≠ gb302))
                    replace BK300 := Aside0.mk (blk_below BK300.out hb)
                    replace BK301 := Aside0.mk (blk_below BK301.out hb)
                    replace BK302 := Aside0.mk (blk_below BK302.out hb)
                    replace HB := Aside0.mk (below_step HB.out hb)
                    clear hb hbox hg
                    refine hK.out _ _ ⟨(blk_cell BK301.out 0).trans rfl, (blk_cell BK301.out 1).trans rfl, (blk_cell BK301.out 2).trans rfl, (blk_cell BK300.out 0).trans rfl, (blk_cell BK300.out 1).trans rfl, (blk_cell BK300.out 2).trans rfl⟩ (fun hHeld => ?_)
                    clear hK K
                    refine norm_ (a' := ?_) ?_ ?_
                    rotate_left
                    · show Act.put _ (some 7) _ = _
                      simp only [Act.put, List.setIfInBounds_toArray, List.set_cons_zero, List.set_cons_succ, i64_w, i32_w]
                      rfl
                    exact norm_ (by simp only [putAll, Act.put, List.setIfInBounds_toArray, List.set_cons_zero, List.set_cons_succ]) (hCont (gb311) _ ⟨hHeld, BK300.out, BK301.out, BK302.out, BK311.out, GW311.out, GE311.out, NB300_311.out, NB311_300.out, NB301_311.out, NB311_301.out, NB302_311.out, NB311_302.out, HB.out⟩)
                  · skip
                    refine box_step ?hg (N := 7) ?hd (cs := #[.complex .f64 0 0, .bool false, .complex .f64 0 0]) (t := 45) ?hr ?_; (case hd => rfl); (case hg => rfl); (case hr => (go_simp; done))
                    intro gb311 hg w41 hbox hb
                    have BK311 := Aside0.mk (hbox)
                    have GW311 := Aside0.mk ((by rw [hg]; exact (below_size HB.out) : w.heap.size ≤ gb311))
                    have GE311 := Aside0.mk ((by rw [hg]; exact (below_size HB.out) : w.heap.size ≤ gb311))
                    have NB300_311 := Aside0.mk ((by rw [hg]; exact Nat.ne_of_lt (blk_lt BK300.out) : gb300 ≠ gb311))
                    have NB311_300 := Aside0.mk ((by rw [hg]; exact Nat.ne_of_gt (blk_lt BK300.out) : gb311 ≠ gb300))
                    have NB301_311 := Aside0.mk ((by rw [hg]; exact Nat.ne_of_lt (blk_lt BK301.out) : gb301 ≠ gb311))
                    have NB311_301 := Aside0.mk ((by rw [hg]; exact Nat.ne_of_gt (blk_lt BK301.out) : gb311 ≠ gb301))
                    have NB302_311 := Aside0.mk ((by rw [hg]; exact Nat.ne_of_lt (blk_lt BK302.out) : gb302 ≠ gb311))
                    have NB311_302 := Aside0.mk ((by rw [hg]; exact Nat.ne_of_gt (blk_lt BK302.out) : gb311 ≠ gb302))
                    replace BK300 := Aside0.mk (blk_below BK300.out hb)
                    replace BK301 := Aside0.mk (blk_below BK301.out hb)
                    replace BK302 := Aside0.mk (blk_below BK302.out hb)
                    replace HB := Aside0.mk (below_step HB.out hb)
                    clear hb hbox hg
                    refine hK.out _ _ ⟨(blk_cell BK301.out 0).trans rfl, (blk_cell BK301.out 1).trans rfl, (blk_cell BK301.out 2).trans rfl, (blk_cell BK300.out 0).trans rfl, (blk_cell BK300.out 1).trans rfl, (blk_cell BK300.out 2).trans rfl⟩ (fun hHeld => ?_)
                    clear hK K
                    refine norm_ (a' := ?_) ?_ ?_
                    rotate_left
                    · show Act.put _ (some 7) _ = _
                      simp only [Act.put, List.setIfInBounds_toArray, List.set_cons_zero, List.set_cons_succ, i64_w, i32_w]
                      rfl
                    refine one_ (i := 13) (N := some 36) #[true, true, true, true, true, true, true, true, true, true, true, true, true, true, true, false] rfl rfl (one_of HT_.out (by kernel_rfl)) (by decide) (fun K hK => ?_)
                    refine goes_ Try.func27 (by kernel_rfl) rfl #[.complex .f64 t306.1 t306.2, .bool (a0_1 != a1_1), .complex .f64 t307.1 t307.2] (by rfl) rfl rfl (by (try simp only [List.map_toArray, List.map_cons, List.map_nil]); (rfl)) ?_
                    with_reducible refine (iso_made.calls t306 (a0_1 != a1_1) t307 t308 t309 t310 _ A36.out).mono ?_
                    rintro e w42 ⟨rfl, hb⟩
                    refine ⟨_, rfl, ?_⟩
                    replace BK300 := Aside0.mk (blk_below BK300.out hb)
                    replace BK301 := Aside0.mk (blk_below BK301.out hb)
                    replace BK302 := Aside0.mk (blk_below BK302.out hb)
                    replace BK311 := Aside0.mk (blk_below BK311.out hb)
                    replace HB := Aside0.mk (below_step HB.out hb)
                    (try clear hb)
                    refine hK.out _ _ ⟨(blk_cell BK301.out 0).trans rfl, (blk_cell BK301.out 1).trans rfl, (blk_cell BK301.out 2).trans rfl, (blk_cell BK300.out 0).trans rfl, (blk_cell BK300.out 1).trans rfl, (blk_cell BK300.out 2).trans rfl⟩ (fun hHeld => ?_)
                    clear hK K
                    refine norm_ (a' := ?_) ?_ ?_
                    rotate_left
                    · show Act.put _ (some 36) _ = _
                      simp only [Act.put, List.setIfInBounds_toArray, List.set_cons_zero, List.set_cons_succ, i64_w, i32_w]
                      rfl
                    exact norm_ (by simp only [putAll, Act.put, List.setIfInBounds_toArray, List.set_cons_zero, List.set_cons_succ]) (hCont (gb311) _ ⟨hHeld, BK300.out, BK301.out, BK302.out, BK311.out, GW311.out, GE311.out, NB300_311.out, NB311_300.out, NB301_311.out, NB311_301.out, NB302_311.out, NB311_302.out, HB.out⟩)
                · skip
                  refine box_step ?hg (N := 7) ?hd (cs := #[.complex .f64 0 0, .bool false, .complex .f64 0 0]) (t := 45) ?hr ?_; (case hd => rfl); (case hg => rfl); (case hr => (go_simp; done))
                  intro gb311 hg w40 hbox hb
                  have BK311 := Aside0.mk (hbox)
                  have GW311 := Aside0.mk ((by rw [hg]; exact (below_size HB.out) : w.heap.size ≤ gb311))
                  have GE311 := Aside0.mk ((by rw [hg]; exact (below_size HB.out) : w.heap.size ≤ gb311))
                  have NB300_311 := Aside0.mk ((by rw [hg]; exact Nat.ne_of_lt (blk_lt BK300.out) : gb300 ≠ gb311))
                  have NB311_300 := Aside0.mk ((by rw [hg]; exact Nat.ne_of_gt (blk_lt BK300.out) : gb311 ≠ gb300))
                  have NB301_311 := Aside0.mk ((by rw [hg]; exact Nat.ne_of_lt (blk_lt BK301.out) : gb301 ≠ gb311))
                  have NB311_301 := Aside0.mk ((by rw [hg]; exact Nat.ne_of_gt (blk_lt BK301.out) : gb311 ≠ gb301))
                  have NB302_311 := Aside0.mk ((by rw [hg]; exact Nat.ne_of_lt (blk_lt BK302.out) : gb302 ≠ gb311))
                  have NB311_302 := Aside0.mk ((by rw [hg]; exact Nat.ne_of_gt (blk_lt BK302.out) : gb311 ≠ gb302))
                  replace BK300 := Aside0.mk (blk_below BK300.out hb)
                  replace BK301 := Aside0.mk (blk_below BK301.out hb)
                  replace BK302 := Aside0.mk (blk_below BK302.out hb)
                  replace HB := Aside0.mk (below_step HB.out hb)
                  clear hb hbox hg
                  refine hK.out _ _ ⟨(blk_cell BK301.out 0).trans rfl, (blk_cell BK301.out 1).trans rfl, (blk_cell BK301.out 2).trans rfl, (blk_cell BK300.out 0).trans rfl, (blk_cell BK300.out 1).trans rfl, (blk_cell BK300.out 2).trans rfl⟩ (fun hHeld => ?_)
                  clear hK K
                  refine norm_ (a' := ?_) ?_ ?_
                  rotate_left
                  · show Act.put _ (some 7) _ = _
                    simp only [Act.put, List.setIfInBounds_toArray, List.set_cons_zero, List.set_cons_succ, i64_w, i32_w]
                    rfl
                  refine one_ (i := 12) (N := some 35) #[true, true, true, true, true, true, true, true, true, true, true, true, true, false, true, false] rfl rfl (one_of HT_.out (by kernel_rfl)) (by decide) (fun K hK => ?_)
                  refine goes_ Try.func28 (by kernel_rfl) rfl #[.agg #[.complex .f64 a1_0.1 a1_0.2, .bool a1_1, .complex .f64 a1_2.1 a1_2.2], .complex .f64 a0_2.1 a0_2.2] (by rfl) rfl rfl (by (try simp only [List.map_toArray, List.map_cons, List.map_nil]); (rfl)) ?_
                  with_reducible refine (iso_does.calls a1_0 a1_1 a1_2 a0_2 t307 _ A35.out).mono ?_
                  rintro e w41 ⟨rfl, hb⟩
                  refine ⟨_, rfl, ?_⟩
                  replace BK300 := Aside0.mk (blk_below BK300.out hb)
                  replace BK301 := Aside0.mk (blk_below BK301.out hb)
                  replace BK302 := Aside0.mk (blk_below BK302.out hb)
                  replace BK311 := Aside0.mk (blk_below BK311.out hb)
                  replace HB := Aside0.mk (below_step HB.out hb)
                  (try clear hb)
                  refine hK.out _ _ ⟨(blk_cell BK301.out 0).trans rfl, (blk_cell BK301.out 1).trans rfl, (blk_cell BK301.out 2).trans rfl, (blk_cell BK300.out 0).trans rfl, (blk_cell BK300.out 1).trans rfl, (blk_cell BK300.out 2).trans rfl⟩ (fun hHeld => ?_)
                  clear hK K
                  refine norm_ (a' := ?_) ?_ ?_
                  rotate_left
                  · show Act.put _ (some 35) _ = _
                    simp only [Act.put, List.setIfInBounds_toArray, List.set_cons_zero, List.set_cons_succ, i64_w, i32_w]
                    rfl
                  refine one_ (i := 13) (N := some 36) #[true, true, true, true, true, true, true, true, true, true, true, true, true, true, true, false] rfl rfl (one_of HT_.out (by kernel_rfl)) (by decide) (fun K hK => ?_)
                  refine goes_ Try.func27 (by kernel_rfl) rfl #[.complex .f64 t306.1 t306.2, .bool (a0_1 != a1_1), .complex .f64 t307.1 t307.2] (by rfl) rfl rfl (by (try simp only [List.map_toArray, List.map_cons, List.map_nil]); (rfl)) ?_
                  with_reducible refine (iso_made.calls t306 (a0_1 != a1_1) t307 t308 t309 t310 _ A36.out).mono ?_
                  rintro e w42 ⟨rfl, hb⟩
                  refine ⟨_, rfl, ?_⟩
                  replace BK300 := Aside0.mk (blk_below BK300.out hb)
                  replace BK301 := Aside0.mk (blk_below BK301.out hb)
                  replace BK302 := Aside0.mk (blk_below BK302.out hb)
                  replace BK311 := Aside0.mk (blk_below BK311.out hb)
                  replace HB := Aside0.mk (below_step HB.out hb)
                  (try clear hb)
                  refine hK.out _ _ ⟨(blk_cell BK301.out 0).trans rfl, (blk_cell BK301.out 1).trans rfl, (blk_cell BK301.out 2).trans rfl, (blk_cell BK300.out 0).trans rfl, (blk_cell BK300.out 1).trans rfl, (blk_cell BK300.out 2).trans rfl⟩ (fun hHeld => ?_)
                  clear hK K
                  refine norm_ (a' := ?_) ?_ ?_
                  rotate_left
                  · show Act.put _ (some 36) _ = _
                    simp only [Act.put, List.setIfInBounds_toArray, List.set_cons_zero, List.set_cons_succ, i64_w, i32_w]
                    rfl
                  exact norm_ (by simp only [putAll, Act.put, List.setIfInBounds_toArray, List.set_cons_zero, List.set_cons_succ]) (hCont (gb311) _ ⟨hHeld, BK300.out, BK301.out, BK302.out, BK311.out, GW311.out, GE311.out, NB300_311.out, NB311_300.out, NB301_311.out, NB311_301.out, NB302_311.out, NB311_302.out, HB.out⟩)
              rintro gb311 w43 ⟨hS_, h0_, h1_, h2_, h3_, h4_, h5_, h6_, h7_, h8_, h9_, h10_, h11_, h12_⟩
              have n0_ : Aside0 (w43.heap[gb300]? = some (.cells #[.complex .f64 a0_0.1 a0_0.2, .bool a0_1, .complex .f64 a0_2.1 a0_2.2] 45 (0, 0))) := ⟨h0_⟩
              have n1_ : Aside0 (w43.heap[gb301]? = some (.cells #[.complex .f64 a1_0.1 a1_0.2, .bool a1_1, .complex .f64 a1_2.1 a1_2.2] 45 (0, 0))) := ⟨h1_⟩
              have n2_ : Aside0 (w43.heap[gb302]? = some (.cells #[.complex .f64 0 0, .bool false, .complex .f64 0 0] 45 (0, 0))) := ⟨h2_⟩
              have n3_ : Aside0 (w43.heap[gb311]? = some (.cells #[.complex .f64 0 0, .bool false, .complex .f64 0 0] 45 (0, 0))) := ⟨h3_⟩
              have n4_ : Aside0 (w.heap.size ≤ gb311) := ⟨h4_⟩
              have n5_ : Aside0 (w.heap.size ≤ gb311) := ⟨h5_⟩
              have n6_ : Aside0 (gb300 ≠ gb311) := ⟨h6_⟩
              have n7_ : Aside0 (gb311 ≠ gb300) := ⟨h7_⟩
              have n8_ : Aside0 (gb301 ≠ gb311) := ⟨h8_⟩
              have n9_ : Aside0 (gb311 ≠ gb301) := ⟨h9_⟩
              have n10_ : Aside0 (gb302 ≠ gb311) := ⟨h10_⟩
              have n11_ : Aside0 (gb311 ≠ gb302) := ⟨h11_⟩
              have n12_ : Aside0 (Below w.heap.size w w43) := ⟨h12_⟩
              clear BK300
              clear BK301
              clear BK302
              clear HB
              clear h0_ h1_ h2_ h3_ h4_ h5_ h6_ h7_ h8_ h9_ h10_ h11_ h12_
              have BK300 := n0_
              have BK301 := n1_
              have BK302 := n2_
              have BK311 := n3_
              have GW311 := n4_
              have GE311 := n5_
              have NB300_311 := n6_
              have NB311_300 := n7_
              have NB301_311 := n8_
              have NB311_301 := n9_
              have NB302_311 := n10_
              have NB311_302 := n11_
              have HB := n12_
              clear n0_ n1_ n2_ n3_ n4_ n5_ n6_ n7_ n8_ n9_ n10_ n11_ n12_
              have hHeld : w43.cell? ⟨gb301, 0, none⟩ = some (.complex .f64 a1_0.1 a1_0.2) ∧ w43.cell? ⟨gb301, 1, none⟩ = some (.bool a1_1) ∧ w43.cell? ⟨gb301, 2, none⟩ = some (.complex .f64 a1_2.1 a1_2.2) ∧ w43.cell? ⟨gb300, 0, none⟩ = some (.complex .f64 a0_0.1 a0_0.2) ∧ w43.cell? ⟨gb300, 1, none⟩ = some (.bool a0_1) ∧ w43.cell? ⟨gb300, 2, none⟩ = some (.complex .f64 a0_2.1 a0_2.2) := hS_
              refine norm_ (a' := ?_) ?_ ?_
              rotate_left
              · simp only [putAll, Act.put, List.setIfInBounds_toArray, List.set_cons_zero, List.set_cons_succ]
                rfl
              refine one_ (i := 15) (N := none) #[true, true, true, true, true, true, true, true, true, true, true, true, true, true, true, true] rfl rfl (one_of HT_.out (by kernel_rfl)) (by decide) (fun K hK => ?_)
              have hs44 : w43.cell? ⟨gb311, 0, none⟩ = some (.complex .f64 0 0) := (blk_cell BK311.out 0).trans rfl
              have hfs44 := blk_frozen BK311.out 0
              have hns44_0 := NB300_311.out
              have hns44_1 := NB301_311.out
              have hns44_2 := NB302_311.out
              have hms44_0 := NB311_300.out
              have hms44_1 := NB311_301.out
              have hms44_2 := NB311_302.out
              have hs45 : w43.cell? ⟨gb311, 1, none⟩ = some (.bool false) := (blk_cell BK311.out 1).trans rfl
              have hfs45 := blk_frozen BK311.out 1
              have hns45_0 := NB300_311.out
              have hns45_1 := NB301_311.out
              have hns45_2 := NB302_311.out
              have hms45_0 := NB311_300.out
              have hms45_1 := NB311_301.out
              have hms45_2 := NB311_302.out
              have hs46 : w43.cell? ⟨gb311, 2, none⟩ = some (.complex .f64 0 0) := (blk_cell BK311.out 2).trans rfl
              have hfs46 := blk_frozen BK311.out 2
              have hns46_0 := NB300_311.out
              have hns46_1 := NB301_311.out
              have hns46_2 := NB302_311.out
              have hms46_0 := NB311_300.out
              have hms46_1 := NB311_301.out
              have hms46_2 := NB311_302.out
              refine skip_ (w1 := ?_) (by rfl) rfl ?_ ?_
              rotate_left
              · go_simp
                rfl
              refine hK.out _ _ ⟨((cell_far (p := ⟨gb311, _, none⟩) NB301_311.out _).trans (((cell_far (p := ⟨gb311, _, none⟩) NB301_311.out _).trans (((cell_far (p := ⟨gb311, _, none⟩) NB301_311.out _).trans (hHeld.1)))))), ((cell_far (p := ⟨gb311, _, none⟩) NB301_311.out _).trans (((cell_far (p := ⟨gb311, _, none⟩) NB301_311.out _).trans (((cell_far (p := ⟨gb311, _, none⟩) NB301_311.out _).trans (hHeld.2.1)))))), ((cell_far (p := ⟨gb311, _, none⟩) NB301_311.out _).trans (((cell_far (p := ⟨gb311, _, none⟩) NB301_311.out _).trans (((cell_far (p := ⟨gb311, _, none⟩) NB301_311.out _).trans (hHeld.2.2.1)))))), ((cell_far (p := ⟨gb311, _, none⟩) NB300_311.out _).trans (((cell_far (p := ⟨gb311, _, none⟩) NB300_311.out _).trans (((cell_far (p := ⟨gb311, _, none⟩) NB300_311.out _).trans (hHeld.2.2.2.1)))))), ((cell_far (p := ⟨gb311, _, none⟩) NB300_311.out _).trans (((cell_far (p := ⟨gb311, _, none⟩) NB300_311.out _).trans (((cell_far (p := ⟨gb311, _, none⟩) NB300_311.out _).trans (hHeld.2.2.2.2.1)))))), ((cell_far (p := ⟨gb311, _, none⟩) NB300_311.out _).trans (((cell_far (p := ⟨gb311, _, none⟩) NB300_311.out _).trans (((cell_far (p := ⟨gb311, _, none⟩) NB300_311.out _).trans (hHeld.2.2.2.2.2))))))⟩ (fun hHeld => ?_)
              clear hK K
              refine done_ (done_of HT_.out (by kernel_rfl)) ?_
              have hnb47 := NB311_300.out
              have hnc47 := NB300_311.out
              have hnb48 := NB311_301.out
              have hnc48 := NB301_311.out
              have hnb49 := NB311_302.out
              have hnc49 := NB302_311.out
              have hcz50_0 : w43.cell? ⟨gb311, 0, none⟩ = some (.complex .f64 0 0) := (blk_cell BK311.out 0).trans rfl
              have hcz50_1 : w43.cell? ⟨gb311, 1, none⟩ = some (.bool false) := (blk_cell BK311.out 1).trans rfl
              have hcz50_2 : w43.cell? ⟨gb311, 2, none⟩ = some (.complex .f64 0 0) := (blk_cell BK311.out 2).trans rfl
              have hfz50_0 := blk_frozen BK311.out 0
              have hfz50_1 := blk_frozen BK311.out 1
              have hfz50_2 := blk_frozen BK311.out 2
              try go_wp2_with ((((with_reducible refine gate_callee (f := 25) rfl ?_); refine goesL_ (some 38) rfl rfl Try.func25 (by kernel_rfl) rfl #[.agg #[.complex .f64 t308.1 t308.2, .bool t309, .complex .f64 t310.1 t310.2]] rfl (by (try simp only [List.map_toArray, List.map_cons, List.map_nil]); (rfl)) ?_; (with_reducible refine (iso_Valid.calls t308 t309 t310 true _ A37.out).mono ?_); rintro e w51 ⟨rfl, hb⟩; refine ⟨_, rfl, ?_⟩; replace BK300 := Aside0.mk (blk_below (blk_far (blk_far (blk_far BK300.out NB300_311.out _) NB300_311.out _) NB300_311.out _) hb); replace BK301 := Aside0.mk (blk_below (blk_far (blk_far (blk_far BK301.out NB301_311.out _) NB301_311.out _) NB301_311.out _) hb); replace BK302 := Aside0.mk (blk_below (blk_far (blk_far (blk_far BK302.out NB302_311.out _) NB302_311.out _) NB302_311.out _) hb); replace BK311 := Aside0.mk (blk_below (g := gb311) (o := .cells #[.complex .f64 t308.1 t308.2, .bool t309, .complex .f64 t310.1 t310.2] 45 (0, 0)) (by (with_reducible skip); refine blk_put (cs := #[.complex .f64 t308.1 t308.2, .bool t309, .complex .f64 0 0]) ?_ 2 _ rfl; (with_reducible skip); refine blk_put (cs := #[.complex .f64 t308.1 t308.2, .bool false, .complex .f64 0 0]) ?_ 1 _ rfl; (with_reducible skip); refine blk_put (cs := #[.complex .f64 0 0, .bool false, .complex .f64 0 0]) ?_ 0 _ rfl; (with_reducible skip); exact BK311.out) hb); replace HB := Aside0.mk (below_step (by repeat (with_reducible first | exact HB.out | refine below_set ?_ GE311.out)) hb); (try clear hb); have hcz52_0 : w51.cell? ⟨gb311, 0, none⟩ = some (.complex .f64 t308.1 t308.2) := (blk_cell BK311.out 0).trans rfl; have hcz52_1 : w51.cell? ⟨gb311, 1, none⟩ = some (.bool t309) := (blk_cell BK311.out 1).trans rfl; have hcz52_2 : w51.cell? ⟨gb311, 2, none⟩ = some (.complex .f64 t310.1 t310.2) := (blk_cell BK311.out 2).trans rfl; have hfz52_0 := blk_frozen BK311.out 0; have hfz52_1 := blk_frozen BK311.out 1; have hfz52_2 := blk_frozen BK311.out 2; have hnb53 := NB302_300.out; have hnc53 := NB300_302.out; have hnb54 := NB302_301.out; have hnc54 := NB301_302.out; have hcz55_0 : w51.cell? ⟨gb302, 0, none⟩ = some (.complex .f64 0 0) := (blk_cell BK302.out 0).trans rfl; have hcz55_1 : w51.cell? ⟨gb302, 1, none⟩ = some (.bool false) := (blk_cell BK302.out 1).trans rfl; have hcz55_2 : w51.cell? ⟨gb302, 2, none⟩ = some (.complex .f64 0 0) := (blk_cell BK302.out 2).trans rfl; have hfz55_0 := blk_frozen BK302.out 0; have hfz55_1 := blk_frozen BK302.out 1; have hfz55_2 := blk_frozen BK302.out 2)))
              refine bodyPost_ret (results_ct rfl _ _ gb302 45 #[.complex .f64 t308.1 t308.2, .bool t309, .complex .f64 t310.1 t310.2] (0, 0) _ rfl (by (with_reducible skip); refine blk_put (cs := #[.complex .f64 t308.1 t308.2, .bool t309, .complex .f64 0 0]) ?_ 2 _ rfl; (with_reducible skip); refine blk_put (cs := #[.complex .f64 t308.1 t308.2, .bool false, .complex .f64 0 0]) ?_ 1 _ rfl; (with_reducible skip); refine blk_put (cs := #[.complex .f64 0 0, .bool false, .complex .f64 0 0]) ?_ 0 _ rfl; (with_reducible skip); exact BK302.out) Try.underlying45 rfl (by kernel_rfl)) rfl ?_
              exact ⟨by (rfl), by repeat (with_reducible first | exact HB.out | refine below_set ?_ GE302.out)⟩
            · replace c38 := Bool.eq_false_iff.mpr c38
              subst c38
              have H1 : (some ((0, 0), false, (0, 0), 5)) = some (r1, r2, r3, r4) := by rw [if_neg (show ¬ (false = true) by decide)] at H; exact H
              clear H
              have H := H1
              clear H1
              simp only [Option.some.injEq, Prod.mk.injEq] at H
              obtain ⟨rfl, rfl, rfl, rfl⟩ := H
              try go_wp2
              replace BK300 := Aside0.mk (blk_drew BK300.out)
              replace BK301 := Aside0.mk (blk_drew BK301.out)
              replace BK302 := Aside0.mk (blk_drew BK302.out)
              replace HB := Aside0.mk (below_drew1 HB.out)
              refine start_ (n := 16) (S := fun w' => w'.cell? ⟨gb301, 0, none⟩ = some (.complex .f64 a1_0.1 a1_0.2) ∧ w'.cell? ⟨gb301, 1, none⟩ = some (.bool a1_1) ∧ w'.cell? ⟨gb301, 2, none⟩ = some (.complex .f64 a1_2.1 a1_2.2) ∧ w'.cell? ⟨gb300, 0, none⟩ = some (.complex .f64 a0_0.1 a0_0.2) ∧ w'.cell? ⟨gb300, 1, none⟩ = some (.bool a0_1) ∧ w'.cell? ⟨gb300, 2, none⟩ = some (.complex .f64 a0_2.1 a0_2.2)) (ds := []) #[false, false, false, false, false, false, false, false, false, false, false, false, false, false, false, false] (by kernel_rfl) rfl rfl ⟨(blk_cell BK301.out 0).trans rfl, (blk_cell BK301.out 1).trans rfl, (blk_cell BK301.out 2).trans rfl, (blk_cell BK300.out 0).trans rfl, (blk_cell BK300.out 1).trans rfl, (blk_cell BK300.out 2).trans rfl⟩ (fun hHeld => ?_); refine with_tabW iso_Then.tab6 iso_Then.bits6 (fun HT_ HW_ => ?_)
              generalize wc.drew = w56 at BK300 BK301 BK302 HB hHeld ⊢
              refine pure_ (i := 0) (N := some 23) (v := ?_) (a' := ?_) #[true, false, false, false, false, false, false, false, false, false, false, false, false, false, false, false] rfl rfl (any_of HT_.out (by kernel_rfl)) (fun _ _ _ h => h) (Or.inl ⟨by rfl, ?_⟩) ?_ ?_
              rotate_left
              · intro w'
                go_simp
                with_reducible rfl
              rotate_left
              · simp only [Act.put, List.setIfInBounds_toArray, List.set_cons_zero, List.set_cons_succ, i64_w, i32_w]
                rfl
              refine pure_ (i := 2) (N := some 25) (v := ?_) (a' := ?_) #[true, false, true, false, false, false, false, false, false, false, false, false, false, false, false, false] rfl rfl (any_of HT_.out (by kernel_rfl)) (fun _ _ _ h => h) (Or.inl ⟨by rfl, ?_⟩) ?_ ?_
              rotate_left
              · intro w'
                go_simp
                with_reducible rfl
              rotate_left
              · simp only [Act.put, List.setIfInBounds_toArray, List.set_cons_zero, List.set_cons_succ, i64_w, i32_w]
                rfl
              refine pure_ (i := 4) (N := some 27) (v := ?_) (a' := ?_) #[true, false, true, false, true, false, false, false, false, false, false, false, false, false, false, false] rfl rfl (any_of HT_.out (by kernel_rfl)) (fun _ _ _ h => h) (Or.inl ⟨by rfl, ?_⟩) ?_ ?_
              rotate_left
              · intro w'
                go_simp
                with_reducible rfl
              rotate_left
              · simp only [Act.put, List.setIfInBounds_toArray, List.set_cons_zero, List.set_cons_succ, i64_w, i32_w]
                rfl
              refine pure_ (i := 6) (N := some 29) (v := ?_) (a' := ?_) #[true, false, true, false, true, false, true, false, false, false, false, false, false, false, false, false] rfl rfl (any_of HT_.out (by kernel_rfl)) (fun _ _ _ h => h) (Or.inl ⟨by rfl, ?_⟩) ?_ ?_
              rotate_left
              · intro w'
                go_simp
                with_reducible rfl
              rotate_left
              · simp only [Act.put, List.setIfInBounds_toArray, List.set_cons_zero, List.set_cons_succ, i64_w, i32_w]
                rfl
              refine pure_ (i := 10) (N := some 33) (v := ?_) (a' := ?_) #[true, false, true, false, true, false, true, false, false, false, true, false, false, false, false, false] rfl rfl (any_of HT_.out (by kernel_rfl)) (fun _ _ _ h => h) (Or.inl ⟨by rfl, ?_⟩) ?_ ?_
              rotate_left
              · intro w'
                go_simp
                with_reducible rfl
              rotate_left
              · simp only [Act.put, List.setIfInBounds_toArray, List.set_cons_zero, List.set_cons_succ, i64_w, i32_w]
                rfl
              refine take_ (i := 1) (N := some 24) (v := ?_) (a' := ?_) #[true, true, true, false, true, false, true, false, false, false, true, false, false, false, false, false] rfl rfl (take_ofW HT_.out HW_.out (by kernel_rfl)) (fun _ _ _ h => h) (Or.inl ⟨by rfl, ?_⟩) hHeld ?_ ?_
              rotate_left
              · rintro w' ⟨s0, s1, s2, s3, s4, s5⟩
                go_simp
                with_reducible rfl
              rotate_left
              · simp only [Act.put, List.setIfInBounds_toArray, List.set_cons_zero, List.set_cons_succ, i64_w, i32_w]
                rfl
              refine pure_ (i := 3) (N := some 26) (v := ?_) (a' := ?_) #[true, true, true, true, true, false, true, false, false, false, true, false, false, false, false, false] rfl rfl (any_of HT_.out (by kernel_rfl)) (fun _ _ _ h => h) (Or.inl ⟨by rfl, ?_⟩) ?_ ?_
              rotate_left
              · intro w'
                go_simp
                with_reducible rfl
              rotate_left
              · simp only [Act.put, List.setIfInBounds_toArray, List.set_cons_zero, List.set_cons_succ, i64_w, i32_w]
                rfl
              refine take_ (i := 5) (N := some 28) (v := ?_) (a' := ?_) #[true, true, true, true, true, true, true, false, false, false, true, false, false, false, false, false] rfl rfl (take_ofW HT_.out HW_.out (by kernel_rfl)) (fun _ _ _ h => h) (Or.inl ⟨by rfl, ?_⟩) hHeld ?_ ?_
              rotate_left
              · rintro w' ⟨s0, s1, s2, s3, s4, s5⟩
                go_simp
                with_reducible rfl
              rotate_left
              · simp only [Act.put, List.setIfInBounds_toArray, List.set_cons_zero, List.set_cons_succ, i64_w, i32_w]
                rfl
              refine take_ (i := 7) (N := some 30) (v := ?_) (a' := ?_) #[true, true, true, true, true, true, true, true, false, false, true, false, false, false, false, false] rfl rfl (take_ofW HT_.out HW_.out (by kernel_rfl)) (fun _ _ _ h => h) (Or.inl ⟨by rfl, ?_⟩) hHeld ?_ ?_
              rotate_left
              · rintro w' ⟨s0, s1, s2, s3, s4, s5⟩
                go_simp
                with_reducible rfl
              rotate_left
              · simp only [Act.put, List.setIfInBounds_toArray, List.set_cons_zero, List.set_cons_succ, i64_w, i32_w]
                rfl
              refine pure_ (i := 8) (N := some 31) (v := ?_) (a' := ?_) #[true, true, true, true, true, true, true, true, true, false, true, false, false, false, false, false] rfl rfl (any_of HT_.out (by kernel_rfl)) (fun _ _ _ h => h) (Or.inl ⟨by rfl, ?_⟩) ?_ ?_
              rotate_left
              · intro w'
                go_simp
                with_reducible rfl
              rotate_left
              · simp only [Act.put, List.setIfInBounds_toArray, List.set_cons_zero, List.set_cons_succ, i64_w, i32_w]
                rfl
              refine take_ (i := 9) (N := some 32) (v := ?_) (a' := ?_) #[true, true, true, true, true, true, true, true, true, true, true, false, false, false, false, false] rfl rfl (take_ofW HT_.out HW_.out (by kernel_rfl)) (fun _ _ _ h => h) (Or.inl ⟨by rfl, ?_⟩) hHeld ?_ ?_
              rotate_left
              · rintro w' ⟨s0, s1, s2, s3, s4, s5⟩
                go_simp
                with_reducible rfl
              rotate_left
              · simp only [Act.put, List.setIfInBounds_toArray, List.set_cons_zero, List.set_cons_succ, i64_w, i32_w]
                rfl
              refine take_ (i := 11) (N := some 34) (v := ?_) (a' := ?_) #[true, true, true, true, true, true, true, true, true, true, true, true, false, false, false, false] rfl rfl (take_ofW HT_.out HW_.out (by kernel_rfl)) (fun _ _ _ h => h) (Or.inl ⟨by rfl, ?_⟩) hHeld ?_ ?_
              rotate_left
              · rintro w' ⟨s0, s1, s2, s3, s4, s5⟩
                go_simp
                with_reducible rfl
              rotate_left
              · simp only [Act.put, List.setIfInBounds_toArray, List.set_cons_zero, List.set_cons_succ, i64_w, i32_w]
                rfl
              refine join_ (σ := Nat) 1 #[true, true, true, true, true, true, true, true, true, true, true, true, true, true, true, false] (fun s_ => [(35, .complex .f64 t307.1 t307.2), (36, .agg #[.complex .f64 t308.1 t308.2, .bool t309, .complex .f64 t310.1 t310.2]), (7, .pointer (some ⟨s_, 0, none⟩))]) (fun s_ w' => (w'.cell? ⟨gb301, 0, none⟩ = some (.complex .f64 a1_0.1 a1_0.2) ∧ w'.cell? ⟨gb301, 1, none⟩ = some (.bool a1_1) ∧ w'.cell? ⟨gb301, 2, none⟩ = some (.complex .f64 a1_2.1 a1_2.2) ∧ w'.cell? ⟨gb300, 0, none⟩ = some (.complex .f64 a0_0.1 a0_0.2) ∧ w'.cell? ⟨gb300, 1, none⟩ = some (.bool a0_1) ∧ w'.cell? ⟨gb300, 2, none⟩ = some (.complex .f64 a0_2.1 a0_2.2)) ∧ (w'.heap[gb300]? = some (.cells #[.complex .f64 a0_0.1 a0_0.2, .bool a0_1, .complex .f64 a0_2.1 a0_2.2] 45 (0, 0))) ∧ (w'.heap[gb301]? = some (.cells #[.complex .f64 a1_0.1 a1_0.2, .bool a1_1, .complex .f64 a1_2.1 a1_2.2] 45 (0, 0))) ∧ (w'.heap[gb302]? = some (.cells #[.complex .f64 0 0, .bool false, .complex .f64 0 0] 45 (0, 0))) ∧ (w'.heap[s_]? = some (.cells #[.complex .f64 0 0, .bool false, .complex .f64 0 0] 45 (0, 0))) ∧ (w.heap.size ≤ s_) ∧ (w.heap.size ≤ s_) ∧ (gb300 ≠ s_) ∧ (s_ ≠ gb300) ∧ (gb301 ≠ s_) ∧ (s_ ≠ gb301) ∧ (gb302 ≠ s_) ∧ (s_ ≠ gb302) ∧ (Below w.heap.size w w')) ?_ ?_
              rotate_left
              · intro hCont
                refine two_ (i := 12) (j := 14) (Ni := some 35) (Nj := some 7) #[true, true, true, true, true, true, true, true, true, true, true, true, true, false, false, false] #[true, true, true, true, true, true, true, true, true, true, true, true, false, false, true, false] rfl rfl rfl rfl (two_of HT_.out (by kernel_rfl)) (by decide) (by decide) (fun K hK => ?_) (fun K hK => ?_)
                · skip
                  refine goes_ Try.func28 (by kernel_rfl) rfl #[.agg #[.complex .f64 a1_0.1 a1_0.2, .bool a1_1, .complex .f64 a1_2.1 a1_2.2], .complex .f64 a0_2.1 a0_2.2] (by rfl) rfl rfl (by (try simp only [List.map_toArray, List.map_cons, List.map_nil]); (rfl)) ?_
                  with_reducible refine (iso_does.calls a1_0 a1_1 a1_2 a0_2 t307 _ A35.out).mono ?_
                  rintro e w57 ⟨rfl, hb⟩
                  refine ⟨_, rfl, ?_⟩
                  replace BK300 := Aside0.mk (blk_below BK300.out hb)
                  replace BK301 := Aside0.mk (blk_below BK301.out hb)
                  replace BK302 := Aside0.mk (blk_below BK302.out hb)
                  replace HB := Aside0.mk (below_step HB.out hb)
                  (try clear hb)
                  refine hK.out _ _ ⟨(blk_cell BK301.out 0).trans rfl, (blk_cell BK301.out 1).trans rfl, (blk_cell BK301.out 2).trans rfl, (blk_cell BK300.out 0).trans rfl, (blk_cell BK300.out 1).trans rfl, (blk_cell BK300.out 2).trans rfl⟩ (fun hHeld => ?_)
                  clear hK K
                  refine norm_ (a' := ?_) ?_ ?_
                  rotate_left
                  · show Act.put _ (some 35) _ = _
                    simp only [Act.put, List.setIfInBounds_toArray, List.set_cons_zero, List.set_cons_succ, i64_w, i32_w]
                    rfl
                  refine two_ (i := 13) (j := 14) (Ni := some 36) (Nj := some 7) #[true, true, true, true, true, true, true, true, true, true, true, true, true, true, false, false] #[true, true, true, true, true, true, true, true, true, true, true, true, true, false, true, false] rfl rfl rfl rfl (two_of HT_.out (by kernel_rfl)) (by decide) (by decide) (fun K hK => ?_) (fun K hK => ?_)
                  · skip
                    refine goes_ Try.func27 (by kernel_rfl) rfl #[.complex .f64 t306.1 t306.2, .bool (a0_1 != a1_1), .complex .f64 t307.1 t307.2] (by rfl) rfl rfl (by (try simp only [List.map_toArray, List.map_cons, List.map_nil]); (rfl)) ?_
                    with_reducible refine (iso_made.calls t306 (a0_1 != a1_1) t307 t308 t309 t310 _ A36.out).mono ?_
                    rintro e w58 ⟨rfl, hb⟩
                    refine ⟨_, rfl, ?_⟩
                    replace BK300 := Aside0.mk (blk_below BK300.out hb)
                    replace BK301 := Aside0.mk (blk_below BK301.out hb)
                    replace BK302 := Aside0.mk (blk_below BK302.out hb)
                    replace HB := Aside0.mk (below_step HB.out hb)
                    (try clear hb)
                    refine hK.out _ _ ⟨(blk_cell BK301.out 0).trans rfl, (blk_cell BK301.out 1).trans rfl, (blk_cell BK301.out 2).trans rfl, (blk_cell BK300.out 0).trans rfl, (blk_cell BK300.out 1).trans rfl, (blk_cell BK300.out 2).trans rfl⟩ (fun hHeld => ?_)
                    clear hK K
                    refine norm_ (a' := ?_) ?_ ?_
                    rotate_left
                    · show Act.put _ (some 36) _ = _
                      simp only [Act.put, List.setIfInBounds_toArray, List.set_cons_zero, List.set_cons_succ, i64_w, i32_w]
                      rfl
                    refine one_ (i := 14) (N := some 7) #[true, true, true, true, true, true, true, true, true, true, true, true, true, true, true, false] rfl rfl (one_of HT_.out (by kernel_rfl)) (by decide) (fun K hK => ?_)
                    refine box_step ?hg (N := 7) ?hd (cs := #[.complex .f64 0 0, .bool false, .complex .f64 0 0]) (t := 45) ?hr ?_; (case hd => rfl); (case hg => rfl); (case hr => (go_simp; done))
                    intro gb311 hg w59 hbox hb
                    have BK311 := Aside0.mk (hbox)
                    have GW311 := Aside0.mk ((by rw [hg]; exact (below_size HB.out) : w.heap.size ≤ gb311))
                    have GE311 := Aside0.mk ((by rw [hg]; exact (below_size HB.out) : w.heap.size ≤ gb311))
                    have NB300_311 := Aside0.mk ((by rw [hg]; exact Nat.ne_of_lt (blk_lt BK300.out) : gb300 ≠ gb311))
                    have NB311_300 := Aside0.mk ((by rw [hg]; exact Nat.ne_of_gt (blk_lt BK300.out) : gb311 ≠ gb300))
                    have NB301_311 := Aside0.mk ((by rw [hg]; exact Nat.ne_of_lt (blk_lt BK301.out) : gb301 ≠ gb311))
                    have NB311_301 := Aside0.mk ((by rw [hg]; exact Nat.ne_of_gt (blk_lt BK301.out) : gb311 ≠ gb301))
                    have NB302_311 := Aside0.mk ((by rw [hg]; exact Nat.ne_of_lt (blk_lt BK302.out) : gb302 ≠ gb311))
                    have NB311_302 := Aside0.mk ((by rw [hg]; exact Nat.ne_of_gt (blk_lt BK302.out) : gb311 ≠ gb302))
                    replace BK300 := Aside0.mk (blk_below BK300.out hb)
                    replace BK301 := Aside0.mk (blk_below BK301.out hb)
                    replace BK302 := Aside0.mk (blk_below BK302.out hb)
                    replace HB := Aside0.mk (below_step HB.out hb)
                    clear hb hbox hg
                    refine hK.out _ _ ⟨(blk_cell BK301.out 0).trans rfl, (blk_cell BK301.out 1).trans rfl, (blk_cell BK301.out 2).trans rfl, (blk_cell BK300.out 0).trans rfl, (blk_cell BK300.out 1).trans rfl, (blk_cell BK300.out 2).trans rfl⟩ (fun hHeld => ?_)
                    clear hK K
                    refine norm_ (a' := ?_) ?_ ?_
                    rotate_left
                    · show Act.put _ (some 7) _ = _
                      simp only [Act.put, List.setIfInBounds_toArray, List.set_cons_zero, List.set_cons_succ, i64_w, i32_w]
                      rfl
                    exact norm_ (by simp only [putAll, Act.put, List.setIfInBounds_toArray, List.set_cons_zero, List.set_cons_succ]) (hCont (gb311) _ ⟨hHeld, BK300.out, BK301.out, BK302.out, BK311.out, GW311.out, GE311.out, NB300_311.out, NB311_300.out, NB301_311.out, NB311_301.out, NB302_311.out, NB311_302.out, HB.out⟩)
                  · skip
                    refine box_step ?hg (N := 7) ?hd (cs := #[.complex .f64 0 0, .bool false, .complex .f64 0 0]) (t := 45) ?hr ?_; (case hd => rfl); (case hg => rfl); (case hr => (go_simp; done))
                    intro gb311 hg w58 hbox hb
                    have BK311 := Aside0.mk (hbox)
                    have GW311 := Aside0.mk ((by rw [hg]; exact (below_size HB.out) : w.heap.size ≤ gb311))
                    have GE311 := Aside0.mk ((by rw [hg]; exact (below_size HB.out) : w.heap.size ≤ gb311))
                    have NB300_311 := Aside0.mk ((by rw [hg]; exact Nat.ne_of_lt (blk_lt BK300.out) : gb300 ≠ gb311))
                    have NB311_300 := Aside0.mk ((by rw [hg]; exact Nat.ne_of_gt (blk_lt BK300.out) : gb311 ≠ gb300))
                    have NB301_311 := Aside0.mk ((by rw [hg]; exact Nat.ne_of_lt (blk_lt BK301.out) : gb301 ≠ gb311))
                    have NB311_301 := Aside0.mk ((by rw [hg]; exact Nat.ne_of_gt (blk_lt BK301.out) : gb311 ≠ gb301))
                    have NB302_311 := Aside0.mk ((by rw [hg]; exact Nat.ne_of_lt (blk_lt BK302.out) : gb302 ≠ gb311))
                    have NB311_302 := Aside0.mk ((by rw [hg]; exact Nat.ne_of_gt (blk_lt BK302.out) : gb311 ≠ gb302))
                    replace BK300 := Aside0.mk (blk_below BK300.out hb)
                    replace BK301 := Aside0.mk (blk_below BK301.out hb)
                    replace BK302 := Aside0.mk (blk_below BK302.out hb)
                    replace HB := Aside0.mk (below_step HB.out hb)
                    clear hb hbox hg
                    refine hK.out _ _ ⟨(blk_cell BK301.out 0).trans rfl, (blk_cell BK301.out 1).trans rfl, (blk_cell BK301.out 2).trans rfl, (blk_cell BK300.out 0).trans rfl, (blk_cell BK300.out 1).trans rfl, (blk_cell BK300.out 2).trans rfl⟩ (fun hHeld => ?_)
                    clear hK K
                    refine norm_ (a' := ?_) ?_ ?_
                    rotate_left
                    · show Act.put _ (some 7) _ = _
                      simp only [Act.put, List.setIfInBounds_toArray, List.set_cons_zero, List.set_cons_succ, i64_w, i32_w]
                      rfl
                    refine one_ (i := 13) (N := some 36) #[true, true, true, true, true, true, true, true, true, true, true, true, true, true, true, false] rfl rfl (one_of HT_.out (by kernel_rfl)) (by decide) (fun K hK => ?_)
                    refine goes_ Try.func27 (by kernel_rfl) rfl #[.complex .f64 t306.1 t306.2, .bool (a0_1 != a1_1), .complex .f64 t307.1 t307.2] (by rfl) rfl rfl (by (try simp only [List.map_toArray, List.map_cons, List.map_nil]); (rfl)) ?_
                    with_reducible refine (iso_made.calls t306 (a0_1 != a1_1) t307 t308 t309 t310 _ A36.out).mono ?_
                    rintro e w59 ⟨rfl, hb⟩
                    refine ⟨_, rfl, ?_⟩
                    replace BK300 := Aside0.mk (blk_below BK300.out hb)
                    replace BK301 := Aside0.mk (blk_below BK301.out hb)
                    replace BK302 := Aside0.mk (blk_below BK302.out hb)
                    replace BK311 := Aside0.mk (blk_below BK311.out hb)
                    replace HB := Aside0.mk (below_step HB.out hb)
                    (try clear hb)
                    refine hK.out _ _ ⟨(blk_cell BK301.out 0).trans rfl, (blk_cell BK301.out 1).trans rfl, (blk_cell BK301.out 2).trans rfl, (blk_cell BK300.out 0).trans rfl, (blk_cell BK300.out 1).trans rfl, (blk_cell BK300.out 2).trans rfl⟩ (fun hHeld => ?_)
                    clear hK K
                    refine norm_ (a' := ?_) ?_ ?_
                    rotate_left
                    · show Act.put _ (some 36) _ = _
                      simp only [Act.put, List.setIfInBounds_toArray, List.set_cons_zero, List.set_cons_succ, i64_w, i32_w]
                      rfl
                    exact norm_ (by simp only [putAll, Act.put, List.setIfInBounds_toArray, List.set_cons_zero, List.set_cons_succ]) (hCont (gb311) _ ⟨hHeld, BK300.out, BK301.out, BK302.out, BK311.out, GW311.out, GE311.out, NB300_311.out, NB311_300.out, NB301_311.out, NB311_301.out, NB302_311.out, NB311_302.out, HB.out⟩)
                · skip
                  refine box_step ?hg (N := 7) ?hd (cs := #[.complex .f64 0 0, .bool false, .complex .f64 0 0]) (t := 45) ?hr ?_; (case hd => rfl); (case hg => rfl); (case hr => (go_simp; done))
                  intro gb311 hg w57 hbox hb
                  have BK311 := Aside0.mk (hbox)
                  have GW311 := Aside0.mk ((by rw [hg]; exact (below_size HB.out) : w.heap.size ≤ gb311))
                  have GE311 := Aside0.mk ((by rw [hg]; exact (below_size HB.out) : w.heap.size ≤ gb311))
                  have NB300_311 := Aside0.mk ((by rw [hg]; exact Nat.ne_of_lt (blk_lt BK300.out) : gb300 ≠ gb311))
                  have NB311_300 := Aside0.mk ((by rw [hg]; exact Nat.ne_of_gt (blk_lt BK300.out) : gb311 ≠ gb300))
                  have NB301_311 := Aside0.mk ((by rw [hg]; exact Nat.ne_of_lt (blk_lt BK301.out) : gb301 ≠ gb311))
                  have NB311_301 := Aside0.mk ((by rw [hg]; exact Nat.ne_of_gt (blk_lt BK301.out) : gb311 ≠ gb301))
                  have NB302_311 := Aside0.mk ((by rw [hg]; exact Nat.ne_of_lt (blk_lt BK302.out) : gb302 ≠ gb311))
                  have NB311_302 := Aside0.mk ((by rw [hg]; exact Nat.ne_of_gt (blk_lt BK302.out) : gb311 ≠ gb302))
                  replace BK300 := Aside0.mk (blk_below BK300.out hb)
                  replace BK301 := Aside0.mk (blk_below BK301.out hb)
                  replace BK302 := Aside0.mk (blk_below BK302.out hb)
                  replace HB := Aside0.mk (below_step HB.out hb)
                  clear hb hbox hg
                  refine hK.out _ _ ⟨(blk_cell BK301.out 0).trans rfl, (blk_cell BK301.out 1).trans rfl, (blk_cell BK301.out 2).trans rfl, (blk_cell BK300.out 0).trans rfl, (blk_cell BK300.out 1).trans rfl, (blk_cell BK300.out 2).trans rfl⟩ (fun hHeld => ?_)
                  clear hK K
                  refine norm_ (a' := ?_) ?_ ?_
                  rotate_left
                  · show Act.put _ (some 7) _ = _
                    simp only [Act.put, List.setIfInBounds_toArray, List.set_cons_zero, List.set_cons_succ, i64_w, i32_w]
                    rfl
                  refine one_ (i := 12) (N := some 35) #[true, true, true, true, true, true, true, true, true, true, true, true, true, false, true, false] rfl rfl (one_of HT_.out (by kernel_rfl)) (by decide) (fun K hK => ?_)
                  refine goes_ Try.func28 (by kernel_rfl) rfl #[.agg #[.complex .f64 a1_0.1 a1_0.2, .bool a1_1, .complex .f64 a1_2.1 a1_2.2], .complex .f64 a0_2.1 a0_2.2] (by rfl) rfl rfl (by (try simp only [List.map_toArray, List.map_cons, List.map_nil]); (rfl)) ?_
                  with_reducible refine (iso_does.calls a1_0 a1_1 a1_2 a0_2 t307 _ A35.out).mono ?_
                  rintro e w58 ⟨rfl, hb⟩
                  refine ⟨_, rfl, ?_⟩
                  replace BK300 := Aside0.mk (blk_below BK300.out hb)
                  replace BK301 := Aside0.mk (blk_below BK301.out hb)
                  replace BK302 := Aside0.mk (blk_below BK302.out hb)
                  replace BK311 := Aside0.mk (blk_below BK311.out hb)
                  replace HB := Aside0.mk (below_step HB.out hb)
                  (try clear hb)
                  refine hK.out _ _ ⟨(blk_cell BK301.out 0).trans rfl, (blk_cell BK301.out 1).trans rfl, (blk_cell BK301.out 2).trans rfl, (blk_cell BK300.out 0).trans rfl, (blk_cell BK300.out 1).trans rfl, (blk_cell BK300.out 2).trans rfl⟩ (fun hHeld => ?_)
                  clear hK K
                  refine norm_ (a' := ?_) ?_ ?_
                  rotate_left
                  · show Act.put _ (some 35) _ = _
                    simp only [Act.put, List.setIfInBounds_toArray, List.set_cons_zero, List.set_cons_succ, i64_w, i32_w]
                    rfl
                  refine one_ (i := 13) (N := some 36) #[true, true, true, true, true, true, true, true, true, true, true, true, true, true, true, false] rfl rfl (one_of HT_.out (by kernel_rfl)) (by decide) (fun K hK => ?_)
                  refine goes_ Try.func27 (by kernel_rfl) rfl #[.complex .f64 t306.1 t306.2, .bool (a0_1 != a1_1), .complex .f64 t307.1 t307.2] (by rfl) rfl rfl (by (try simp only [List.map_toArray, List.map_cons, List.map_nil]); (rfl)) ?_
                  with_reducible refine (iso_made.calls t306 (a0_1 != a1_1) t307 t308 t309 t310 _ A36.out).mono ?_
                  rintro e w59 ⟨rfl, hb⟩
                  refine ⟨_, rfl, ?_⟩
                  replace BK300 := Aside0.mk (blk_below BK300.out hb)
                  replace BK301 := Aside0.mk (blk_below BK301.out hb)
                  replace BK302 := Aside0.mk (blk_below BK302.out hb)
                  replace BK311 := Aside0.mk (blk_below BK311.out hb)
                  replace HB := Aside0.mk (below_step HB.out hb)
                  (try clear hb)
                  refine hK.out _ _ ⟨(blk_cell BK301.out 0).trans rfl, (blk_cell BK301.out 1).trans rfl, (blk_cell BK301.out 2).trans rfl, (blk_cell BK300.out 0).trans rfl, (blk_cell BK300.out 1).trans rfl, (blk_cell BK300.out 2).trans rfl⟩ (fun hHeld => ?_)
                  clear hK K
                  refine norm_ (a' := ?_) ?_ ?_
                  rotate_left
                  · show Act.put _ (some 36) _ = _
                    simp only [Act.put, List.setIfInBounds_toArray, List.set_cons_zero, List.set_cons_succ, i64_w, i32_w]
                    rfl
                  exact norm_ (by simp only [putAll, Act.put, List.setIfInBounds_toArray, List.set_cons_zero, List.set_cons_succ]) (hCont (gb311) _ ⟨hHeld, BK300.out, BK301.out, BK302.out, BK311.out, GW311.out, GE311.out, NB300_311.out, NB311_300.out, NB301_311.out, NB311_301.out, NB302_311.out, NB311_302.out, HB.out⟩)
              rintro gb311 w60 ⟨hS_, h0_, h1_, h2_, h3_, h4_, h5_, h6_, h7_, h8_, h9_, h10_, h11_, h12_⟩
              have n0_ : Aside0 (w60.heap[gb300]? = some (.cells #[.complex .f64 a0_0.1 a0_0.2, .bool a0_1, .complex .f64 a0_2.1 a0_2.2] 45 (0, 0))) := ⟨h0_⟩
              have n1_ : Aside0 (w60.heap[gb301]? = some (.cells #[.complex .f64 a1_0.1 a1_0.2, .bool a1_1, .complex .f64 a1_2.1 a1_2.2] 45 (0, 0))) := ⟨h1_⟩
              have n2_ : Aside0 (w60.heap[gb302]? = some (.cells #[.complex .f64 0 0, .bool false, .complex .f64 0 0] 45 (0, 0))) := ⟨h2_⟩
              have n3_ : Aside0 (w60.heap[gb311]? = some (.cells #[.complex .f64 0 0, .bool false, .complex .f64 0 0] 45 (0, 0))) := ⟨h3_⟩
              have n4_ : Aside0 (w.heap.size ≤ gb311) := ⟨h4_⟩
              have n5_ : Aside0 (w.heap.size ≤ gb311) := ⟨h5_⟩
              have n6_ : Aside0 (gb300 ≠ gb311) := ⟨h6_⟩
              have n7_ : Aside0 (gb311 ≠ gb300) := ⟨h7_⟩
              have n8_ : Aside0 (gb301 ≠ gb311) := ⟨h8_⟩
              have n9_ : Aside0 (gb311 ≠ gb301) := ⟨h9_⟩
              have n10_ : Aside0 (gb302 ≠ gb311) := ⟨h10_⟩
              have n11_ : Aside0 (gb311 ≠ gb302) := ⟨h11_⟩
              have n12_ : Aside0 (Below w.heap.size w w60) := ⟨h12_⟩
              clear BK300
              clear BK301
              clear BK302
              clear HB
              clear h0_ h1_ h2_ h3_ h4_ h5_ h6_ h7_ h8_ h9_ h10_ h11_ h12_
              have BK300 := n0_
              have BK301 := n1_
              have BK302 := n2_
              have BK311 := n3_
              have GW311 := n4_
              have GE311 := n5_
              have NB300_311 := n6_
              have NB311_300 := n7_
              have NB301_311 := n8_
              have NB311_301 := n9_
              have NB302_311 := n10_
              have NB311_302 := n11_
              have HB := n12_
              clear n0_ n1_ n2_ n3_ n4_ n5_ n6_ n7_ n8_ n9_ n10_ n11_ n12_
              have hHeld : w60.cell? ⟨gb301, 0, none⟩ = some (.complex .f64 a1_0.1 a1_0.2) ∧ w60.cell? ⟨gb301, 1, none⟩ = some (.bool a1_1) ∧ w60.cell? ⟨gb301, 2, none⟩ = some (.complex .f64 a1_2.1 a1_2.2) ∧ w60.cell? ⟨gb300, 0, none⟩ = some (.complex .f64 a0_0.1 a0_0.2) ∧ w60.cell? ⟨gb300, 1, none⟩ = some (.bool a0_1) ∧ w60.cell? ⟨gb300, 2, none⟩ = some (.complex .f64 a0_2.1 a0_2.2) := hS_
              refine norm_ (a' := ?_) ?_ ?_
              rotate_left
              · simp only [putAll, Act.put, List.setIfInBounds_toArray, List.set_cons_zero, List.set_cons_succ]
                rfl
              refine one_ (i := 15) (N := none) #[true, true, true, true, true, true, true, true, true, true, true, true, true, true, true, true] rfl rfl (one_of HT_.out (by kernel_rfl)) (by decide) (fun K hK => ?_)
              have hs61 : w60.cell? ⟨gb311, 0, none⟩ = some (.complex .f64 0 0) := (blk_cell BK311.out 0).trans rfl
              have hfs61 := blk_frozen BK311.out 0
              have hns61_0 := NB300_311.out
              have hns61_1 := NB301_311.out
              have hns61_2 := NB302_311.out
              have hms61_0 := NB311_300.out
              have hms61_1 := NB311_301.out
              have hms61_2 := NB311_302.out
              have hs62 : w60.cell? ⟨gb311, 1, none⟩ = some (.bool false) := (blk_cell BK311.out 1).trans rfl
              have hfs62 := blk_frozen BK311.out 1
              have hns62_0 := NB300_311.out
              have hns62_1 := NB301_311.out
              have hns62_2 := NB302_311.out
              have hms62_0 := NB311_300.out
              have hms62_1 := NB311_301.out
              have hms62_2 := NB311_302.out
              have hs63 : w60.cell? ⟨gb311, 2, none⟩ = some (.complex .f64 0 0) := (blk_cell BK311.out 2).trans rfl
              have hfs63 := blk_frozen BK311.out 2
              have hns63_0 := NB300_311.out
              have hns63_1 := NB301_311.out
              have hns63_2 := NB302_311.out
              have hms63_0 := NB311_300.out
              have hms63_1 := NB311_301.out
              have hms63_2 := NB311_302.out
              refine skip_ (w1 := ?_) (by rfl) rfl ?_ ?_
              rotate_left
              · go_simp
                rfl
              refine hK.out _ _ ⟨((cell_far (p := ⟨gb311, _, none⟩) NB301_311.out _).trans (((cell_far (p := ⟨gb311, _, none⟩) NB301_311.out _).trans (((cell_far (p := ⟨gb311, _, none⟩) NB301_311.out _).trans (hHeld.1)))))), ((cell_far (p := ⟨gb311, _, none⟩) NB301_311.out _).trans (((cell_far (p := ⟨gb311, _, none⟩) NB301_311.out _).trans (((cell_far (p := ⟨gb311, _, none⟩) NB301_311.out _).trans (hHeld.2.1)))))), ((cell_far (p := ⟨gb311, _, none⟩) NB301_311.out _).trans (((cell_far (p := ⟨gb311, _, none⟩) NB301_311.out _).trans (((cell_far (p := ⟨gb311, _, none⟩) NB301_311.out _).trans (hHeld.2.2.1)))))), ((cell_far (p := ⟨gb311, _, none⟩) NB300_311.out _).trans (((cell_far (p := ⟨gb311, _, none⟩) NB300_311.out _).trans (((cell_far (p := ⟨gb311, _, none⟩) NB300_311.out _).trans (hHeld.2.2.2.1)))))), ((cell_far (p := ⟨gb311, _, none⟩) NB300_311.out _).trans (((cell_far (p := ⟨gb311, _, none⟩) NB300_311.out _).trans (((cell_far (p := ⟨gb311, _, none⟩) NB300_311.out _).trans (hHeld.2.2.2.2.1)))))), ((cell_far (p := ⟨gb311, _, none⟩) NB300_311.out _).trans (((cell_far (p := ⟨gb311, _, none⟩) NB300_311.out _).trans (((cell_far (p := ⟨gb311, _, none⟩) NB300_311.out _).trans (hHeld.2.2.2.2.2))))))⟩ (fun hHeld => ?_)
              clear hK K
              refine done_ (done_of HT_.out (by kernel_rfl)) ?_
              have hnb64 := NB311_300.out
              have hnc64 := NB300_311.out
              have hnb65 := NB311_301.out
              have hnc65 := NB301_311.out
              have hnb66 := NB311_302.out
              have hnc66 := NB302_311.out
              have hcz67_0 : w60.cell? ⟨gb311, 0, none⟩ = some (.complex .f64 0 0) := (blk_cell BK311.out 0).trans rfl
              have hcz67_1 : w60.cell? ⟨gb311, 1, none⟩ = some (.bool false) := (blk_cell BK311.out 1).trans rfl
              have hcz67_2 : w60.cell? ⟨gb311, 2, none⟩ = some (.complex .f64 0 0) := (blk_cell BK311.out 2).trans rfl
              have hfz67_0 := blk_frozen BK311.out 0
              have hfz67_1 := blk_frozen BK311.out 1
              have hfz67_2 := blk_frozen BK311.out 2
              try go_wp2_with ((((with_reducible refine gate_callee (f := 25) rfl ?_); refine goesL_ (some 38) rfl rfl Try.func25 (by kernel_rfl) rfl #[.agg #[.complex .f64 t308.1 t308.2, .bool t309, .complex .f64 t310.1 t310.2]] rfl (by (try simp only [List.map_toArray, List.map_cons, List.map_nil]); (rfl)) ?_; (with_reducible refine (iso_Valid.calls t308 t309 t310 false _ A37.out).mono ?_); rintro e w68 ⟨rfl, hb⟩; refine ⟨_, rfl, ?_⟩; replace BK300 := Aside0.mk (blk_below (blk_far (blk_far (blk_far BK300.out NB300_311.out _) NB300_311.out _) NB300_311.out _) hb); replace BK301 := Aside0.mk (blk_below (blk_far (blk_far (blk_far BK301.out NB301_311.out _) NB301_311.out _) NB301_311.out _) hb); replace BK302 := Aside0.mk (blk_below (blk_far (blk_far (blk_far BK302.out NB302_311.out _) NB302_311.out _) NB302_311.out _) hb); replace BK311 := Aside0.mk (blk_below (g := gb311) (o := .cells #[.complex .f64 t308.1 t308.2, .bool t309, .complex .f64 t310.1 t310.2] 45 (0, 0)) (by (with_reducible skip); refine blk_put (cs := #[.complex .f64 t308.1 t308.2, .bool t309, .complex .f64 0 0]) ?_ 2 _ rfl; (with_reducible skip); refine blk_put (cs := #[.complex .f64 t308.1 t308.2, .bool false, .complex .f64 0 0]) ?_ 1 _ rfl; (with_reducible skip); refine blk_put (cs := #[.complex .f64 0 0, .bool false, .complex .f64 0 0]) ?_ 0 _ rfl; (with_reducible skip); exact BK311.out) hb); replace HB := Aside0.mk (below_step (by repeat (with_reducible first | exact HB.out | refine below_set ?_ GE311.out)) hb); (try clear hb); have hnb69 := NB302_300.out; have hnc69 := NB300_302.out; have hnb70 := NB302_301.out; have hnc70 := NB301_302.out; have hcz71_0 : w68.cell? ⟨gb302, 0, none⟩ = some (.complex .f64 0 0) := (blk_cell BK302.out 0).trans rfl; have hcz71_1 : w68.cell? ⟨gb302, 1, none⟩ = some (.bool false) := (blk_cell BK302.out 1).trans rfl; have hcz71_2 : w68.cell? ⟨gb302, 2, none⟩ = some (.complex .f64 0 0) := (blk_cell BK302.out 2).trans rfl; have hfz71_0 := blk_frozen BK302.out 0; have hfz71_1 := blk_frozen BK302.out 1; have hfz71_2 := blk_frozen BK302.out 2)))
              refine bodyPost_ret (results_ct rfl _ _ gb302 45 #[.complex .f64 0 0, .bool false, .complex .f64 0 0] (0, 0) _ rfl (by (with_reducible skip); refine blk_put (cs := #[.complex .f64 0 0, .bool false, .complex .f64 0 0]) ?_ 2 _ rfl; (with_reducible skip); refine blk_put (cs := #[.complex .f64 0 0, .bool false, .complex .f64 0 0]) ?_ 1 _ rfl; (with_reducible skip); refine blk_put (cs := #[.complex .f64 0 0, .bool false, .complex .f64 0 0]) ?_ 0 _ rfl; (with_reducible skip); exact BK302.out) Try.underlying45 rfl (by kernel_rfl)) rfl ?_
              exact ⟨by (rfl), by repeat (with_reducible first | exact HB.out | refine below_set ?_ GE302.out)⟩

end Go.Proofs.Ytfgoplgdhnjkdaa.Be
