/- The machine's side of Go functions of this seat: for each a Lean function and a proof that the call comes to what it says. Written by a program of this session (wip/xp) for this claim. -/
import Derived.Test.YtfgoplgdhnjkdaaBe0
import Derived.Test.YtfgoplgdhnjkdaaBe4
namespace Go.Proofs.Ytfgoplgdhnjkdaa.Be
open Go.RowKit Go.Proofs.YtfgoplgdhnjkdaaW.PrintWords Go.Proofs.YtfgoplgdhnjkdaaW.PrintLast Go.Proofs.YtfgoplgdhnjkdaaW.PrintMore
attribute [local go_sem] max2_int min2_int max_two min_two max_three min_three max_four min_four   -- for this text's walks alone
open Go.Proofs.YtfgoplgdhnjkdaaW.XWords
attribute [local go_sem high] binOp_fEq binOp_fNe binOp_fLt binOp_fLe binOp_fGt binOp_fGe binOp_cEq binOp_cNe unOp_fNeg unOp_cNeg equalIn_f64 equalIn_c128
attribute [local go_sem] run_real run_imag run_complex run_store_f64 run_store_c128 run_store_fn
set_option linter.unusedVariables false
set_option linter.unusedSimpArgs false

/-! ### topo_Home: function 7 -/
def topo_Home.f (k : Nat) (a0_0 : Int) (a0_1 : Int) (a0_2 : Int) (a0_3 : Int) (a0_4 : Int) : Option (Int × Int × Int × Int × Int) := (topo_Check.f k a0_0 a0_1 a0_2 a0_3 a0_4).bind fun t143 => (if t143 = 0 then (some (wrap64 (-(wrap64 (Int.tdiv a0_1 2))), wrap64 (-(wrap64 (Int.tdiv a0_2 2))), a0_1, a0_2, 0)) else (some (0, 0, 0, 0, t143)))
theorem topo_Home.mono : ∀ a0 a1 a2 a3 a4 k, LeO (topo_Home.f k a0 a1 a2 a3 a4) (topo_Home.f (k + 1) a0 a1 a2 a3 a4) := by
  intro a0 a1 a2 a3 a4 k
  unfold topo_Home.f
  repeat' first
      | (with_reducible exact topo_Check.mono _ _ _ _ _ _)
      | (with_reducible exact LeO.refl _)
      | (with_reducible refine LeO.bind ?_ (fun _ => ?_))
set_option maxHeartbeats 8000000 in
set_option maxRecDepth 100000 in
theorem topo_Home.calls (k : Nat) (a0_0 : Int) (a0_1 : Int) (a0_2 : Int) (a0_3 : Int) (a0_4 : Int) (r1 : Int) (r2 : Int) (r3 : Int) (r4 : Int) (r5 : Int) (w : World) (h : topo_Home.f k a0_0 a0_1 a0_2 a0_3 a0_4 = some (r1, r2, r3, r4, r5)) :
    Calls Try.prog 7 #[.agg #[.int .u8 a0_0, .int .i64 a0_1, .int .i64 a0_2, .int .u8 a0_3, .int .i64 a0_4]] w fun e w' => e = .returned (.tuple #[.agg #[.int .i64 r1, .int .i64 r2, .int .i64 r3, .int .i64 r4], .int .i64 r5]) ∧ Below w.heap.size w w' := by
  have hu23 := Try.underlying23
  have hu28 := Try.underlying28
  have HB := Aside0.mk (Below.refl w.heap.size w)
  have H : ((topo_Check.f k a0_0 a0_1 a0_2 a0_3 a0_4).bind fun t143 => (if t143 = 0 then (some (wrap64 (-(wrap64 (Int.tdiv a0_1 2))), wrap64 (-(wrap64 (Int.tdiv a0_2 2))), a0_1, a0_2, 0)) else (some (0, 0, 0, 0, t143)))) = some (r1, r2, r3, r4, r5) := h
  clear h
  replace H := Option.bind_eq_some_iff.mp H
  obtain ⟨t143, A20, H⟩ := H
  replace H : (if t143 = 0 then (some (wrap64 (-(wrap64 (Int.tdiv a0_1 2))), wrap64 (-(wrap64 (Int.tdiv a0_2 2))), a0_1, a0_2, 0)) else (some (0, 0, 0, 0, t143))) = some (r1, r2, r3, r4, r5) := H
  have A2 := Aside0.mk A20
  clear A20
  by_cases c3 : t143 = 0
  · rw [if_pos c3] at H
    have c3b0 : (t143 == 0) = true := beq_iff_eq.mpr c3
    have c3b1 : (t143 != 0) = false := bne_eq_false_iff_eq.mpr c3
    clear c3
    simp only [Option.some.injEq, Prod.mk.injEq] at H
    obtain ⟨rfl, rfl, rfl, rfl, rfl⟩ := H
    go_enter Try.func7, Try.ntmps7
    go_wp2_with (first | ((with_reducible refine gate_dst (N := 1) rfl ?_); refine box_event ?hg (N := 1) ?hd (cs := #[.int .u8 a0_0, .int .i64 a0_1, .int .i64 a0_2, .int .u8 a0_3, .int .i64 a0_4]) (t := 23) ?hr ?_; (case hd => rfl); (case hg => rfl); (case hr => (go_simp; done)); intro gb141 hg w4 hbox hb; have BK141 := Aside0.mk hbox; have GW141 := Aside0.mk ((by rw [hg]; exact (below_size HB.out) : w.heap.size ≤ gb141)); have GE141 := Aside0.mk ((by rw [hg]; exact (below_size HB.out) : w.heap.size ≤ gb141)); replace HB := Aside0.mk (below_step HB.out hb); clear hb hbox hg) | ((with_reducible refine gate_dst (N := 2) rfl ?_); refine box_event ?hg (N := 2) ?hd (cs := #[.int .i64 0, .int .i64 0, .int .i64 0, .int .i64 0]) (t := 28) ?hr ?_; (case hd => rfl); (case hg => rfl); (case hr => (go_simp; done)); intro gb142 hg w5 hbox hb; have BK142 := Aside0.mk hbox; have GW142 := Aside0.mk ((by rw [hg]; exact (below_size HB.out) : w.heap.size ≤ gb142)); have GE142 := Aside0.mk ((by rw [hg]; exact (below_size HB.out) : w.heap.size ≤ gb142)); have NB141_142 := Aside0.mk ((by rw [hg]; exact Nat.ne_of_lt (blk_lt BK141.out) : gb141 ≠ gb142)); have NB142_141 := Aside0.mk ((by rw [hg]; exact Nat.ne_of_gt (blk_lt BK141.out) : gb142 ≠ gb141)); replace BK141 := Aside0.mk (blk_below BK141.out hb); replace HB := Aside0.mk (below_step HB.out hb); clear hb hbox hg; have hnb6 := NB141_142.out; have hnc6 := NB142_141.out; have hcz7_0 : w5.cell? ⟨gb141, 0, none⟩ = some (.int .u8 a0_0) := (blk_cell BK141.out 0).trans rfl; have hcz7_1 : w5.cell? ⟨gb141, 1, none⟩ = some (.int .i64 a0_1) := (blk_cell BK141.out 1).trans rfl; have hcz7_2 : w5.cell? ⟨gb141, 2, none⟩ = some (.int .i64 a0_2) := (blk_cell BK141.out 2).trans rfl; have hcz7_3 : w5.cell? ⟨gb141, 3, none⟩ = some (.int .u8 a0_3) := (blk_cell BK141.out 3).trans rfl; have hcz7_4 : w5.cell? ⟨gb141, 4, none⟩ = some (.int .i64 a0_4) := (blk_cell BK141.out 4).trans rfl; have hfz7_0 := blk_frozen BK141.out 0; have hfz7_1 := blk_frozen BK141.out 1; have hfz7_2 := blk_frozen BK141.out 2; have hfz7_3 := blk_frozen BK141.out 3; have hfz7_4 := blk_frozen BK141.out 4) | ((with_reducible refine gate_callee (f := 6) rfl ?_); refine goesL_ (some 6) rfl rfl Try.func6 (by kernel_rfl) rfl #[.agg #[.int .u8 a0_0, .int .i64 a0_1, .int .i64 a0_2, .int .u8 a0_3, .int .i64 a0_4]] rfl (by (try simp only [List.map_toArray, List.map_cons, List.map_nil]); (rfl)) ?_; (with_reducible refine (topo_Check.calls k a0_0 a0_1 a0_2 a0_3 a0_4 t143 _ A2.out).mono ?_); rintro e w8 ⟨rfl, hb⟩; refine ⟨_, rfl, ?_⟩; replace BK141 := Aside0.mk (blk_below BK141.out hb); replace BK142 := Aside0.mk (blk_below BK142.out hb); replace HB := Aside0.mk (below_step HB.out hb); (try clear hb); have hcz9_0 : w8.cell? ⟨gb141, 0, none⟩ = some (.int .u8 a0_0) := (blk_cell BK141.out 0).trans rfl; have hcz9_1 : w8.cell? ⟨gb141, 1, none⟩ = some (.int .i64 a0_1) := (blk_cell BK141.out 1).trans rfl; have hcz9_2 : w8.cell? ⟨gb141, 2, none⟩ = some (.int .i64 a0_2) := (blk_cell BK141.out 2).trans rfl; have hcz9_3 : w8.cell? ⟨gb141, 3, none⟩ = some (.int .u8 a0_3) := (blk_cell BK141.out 3).trans rfl; have hcz9_4 : w8.cell? ⟨gb141, 4, none⟩ = some (.int .i64 a0_4) := (blk_cell BK141.out 4).trans rfl; have hfz9_0 := blk_frozen BK141.out 0; have hfz9_1 := blk_frozen BK141.out 1; have hfz9_2 := blk_frozen BK141.out 2; have hfz9_3 := blk_frozen BK141.out 3; have hfz9_4 := blk_frozen BK141.out 4; have hcz10_0 : w8.cell? ⟨gb142, 0, none⟩ = some (.int .i64 0) := (blk_cell BK142.out 0).trans rfl; have hcz10_1 : w8.cell? ⟨gb142, 1, none⟩ = some (.int .i64 0) := (blk_cell BK142.out 1).trans rfl; have hcz10_2 : w8.cell? ⟨gb142, 2, none⟩ = some (.int .i64 0) := (blk_cell BK142.out 2).trans rfl; have hcz10_3 : w8.cell? ⟨gb142, 3, none⟩ = some (.int .i64 0) := (blk_cell BK142.out 3).trans rfl; have hfz10_0 := blk_frozen BK142.out 0; have hfz10_1 := blk_frozen BK142.out 1; have hfz10_2 := blk_frozen BK142.out 2; have hfz10_3 := blk_frozen BK142.out 3))
    refine bodyPost_ret (results_ct rfl _ _ gb142 28 #[.int .i64 (wrap64 (-(wrap64 (Int.tdiv a0_1 2)))), .int .i64 (wrap64 (-(wrap64 (Int.tdiv a0_2 2)))), .int .i64 a0_1, .int .i64 a0_2] (0, 0) _ rfl (by (with_reducible skip); refine blk_put (cs := #[.int .i64 (wrap64 (-(wrap64 (Int.tdiv a0_1 2)))), .int .i64 (wrap64 (-(wrap64 (Int.tdiv a0_2 2)))), .int .i64 a0_1, .int .i64 0]) ?_ 3 _ rfl; (with_reducible skip); refine blk_put (cs := #[.int .i64 (wrap64 (-(wrap64 (Int.tdiv a0_1 2)))), .int .i64 (wrap64 (-(wrap64 (Int.tdiv a0_2 2)))), .int .i64 0, .int .i64 0]) ?_ 2 _ rfl; (with_reducible skip); refine blk_put (cs := #[.int .i64 (wrap64 (-(wrap64 (Int.tdiv a0_1 2)))), .int .i64 0, .int .i64 0, .int .i64 0]) ?_ 1 _ rfl; (with_reducible skip); refine blk_put (cs := #[.int .i64 0, .int .i64 0, .int .i64 0, .int .i64 0]) ?_ 0 _ rfl; (with_reducible skip); exact BK142.out) Try.underlying28 rfl (by kernel_rfl)) rfl ?_
    exact ⟨by (rfl), by repeat (with_reducible first | exact HB.out | refine below_set ?_ GE142.out)⟩
  · rw [if_neg c3] at H
    have c3b0 : (t143 == 0) = false := beq_eq_false_iff_ne.mpr c3
    have c3b1 : (t143 != 0) = true := bne_iff_ne.mpr c3
    simp only [Option.some.injEq, Prod.mk.injEq] at H
    obtain ⟨rfl, rfl, rfl, rfl, rfl⟩ := H
    go_enter Try.func7, Try.ntmps7
    go_wp2_with (first | ((with_reducible refine gate_dst (N := 1) rfl ?_); refine box_event ?hg (N := 1) ?hd (cs := #[.int .u8 a0_0, .int .i64 a0_1, .int .i64 a0_2, .int .u8 a0_3, .int .i64 a0_4]) (t := 23) ?hr ?_; (case hd => rfl); (case hg => rfl); (case hr => (go_simp; done)); intro gb141 hg w11 hbox hb; have BK141 := Aside0.mk hbox; have GW141 := Aside0.mk ((by rw [hg]; exact (below_size HB.out) : w.heap.size ≤ gb141)); have GE141 := Aside0.mk ((by rw [hg]; exact (below_size HB.out) : w.heap.size ≤ gb141)); replace HB := Aside0.mk (below_step HB.out hb); clear hb hbox hg) | ((with_reducible refine gate_dst (N := 2) rfl ?_); refine box_event ?hg (N := 2) ?hd (cs := #[.int .i64 0, .int .i64 0, .int .i64 0, .int .i64 0]) (t := 28) ?hr ?_; (case hd => rfl); (case hg => rfl); (case hr => (go_simp; done)); intro gb142 hg w12 hbox hb; have BK142 := Aside0.mk hbox; have GW142 := Aside0.mk ((by rw [hg]; exact (below_size HB.out) : w.heap.size ≤ gb142)); have GE142 := Aside0.mk ((by rw [hg]; exact (below_size HB.out) : w.heap.size ≤ gb142)); have NB141_142 := Aside0.mk ((by rw [hg]; exact Nat.ne_of_lt (blk_lt BK141.out) : gb141 ≠ gb142)); have NB142_141 := Aside0.mk ((by rw [hg]; exact Nat.ne_of_gt (blk_lt BK141.out) : gb142 ≠ gb141)); replace BK141 := Aside0.mk (blk_below BK141.out hb); replace HB := Aside0.mk (below_step HB.out hb); clear hb hbox hg; have hnb13 := NB141_142.out; have hnc13 := NB142_141.out; have hcz14_0 : w12.cell? ⟨gb141, 0, none⟩ = some (.int .u8 a0_0) := (blk_cell BK141.out 0).trans rfl; have hcz14_1 : w12.cell? ⟨gb141, 1, none⟩ = some (.int .i64 a0_1) := (blk_cell BK141.out 1).trans rfl; have hcz14_2 : w12.cell? ⟨gb141, 2, none⟩ = some (.int .i64 a0_2) := (blk_cell BK141.out 2).trans rfl; have hcz14_3 : w12.cell? ⟨gb141, 3, none⟩ = some (.int .u8 a0_3) := (blk_cell BK141.out 3).trans rfl; have hcz14_4 : w12.cell? ⟨gb141, 4, none⟩ = some (.int .i64 a0_4) := (blk_cell BK141.out 4).trans rfl; have hfz14_0 := blk_frozen BK141.out 0; have hfz14_1 := blk_frozen BK141.out 1; have hfz14_2 := blk_frozen BK141.out 2; have hfz14_3 := blk_frozen BK141.out 3; have hfz14_4 := blk_frozen BK141.out 4) | ((with_reducible refine gate_callee (f := 6) rfl ?_); refine goesL_ (some 6) rfl rfl Try.func6 (by kernel_rfl) rfl #[.agg #[.int .u8 a0_0, .int .i64 a0_1, .int .i64 a0_2, .int .u8 a0_3, .int .i64 a0_4]] rfl (by (try simp only [List.map_toArray, List.map_cons, List.map_nil]); (rfl)) ?_; (with_reducible refine (topo_Check.calls k a0_0 a0_1 a0_2 a0_3 a0_4 t143 _ A2.out).mono ?_); rintro e w15 ⟨rfl, hb⟩; refine ⟨_, rfl, ?_⟩; replace BK141 := Aside0.mk (blk_below BK141.out hb); replace BK142 := Aside0.mk (blk_below BK142.out hb); replace HB := Aside0.mk (below_step HB.out hb); (try clear hb); have hcz16_0 : w15.cell? ⟨gb142, 0, none⟩ = some (.int .i64 0) := (blk_cell BK142.out 0).trans rfl; have hcz16_1 : w15.cell? ⟨gb142, 1, none⟩ = some (.int .i64 0) := (blk_cell BK142.out 1).trans rfl; have hcz16_2 : w15.cell? ⟨gb142, 2, none⟩ = some (.int .i64 0) := (blk_cell BK142.out 2).trans rfl; have hcz16_3 : w15.cell? ⟨gb142, 3, none⟩ = some (.int .i64 0) := (blk_cell BK142.out 3).trans rfl; have hfz16_0 := blk_frozen BK142.out 0; have hfz16_1 := blk_frozen BK142.out 1; have hfz16_2 := blk_frozen BK142.out 2; have hfz16_3 := blk_frozen BK142.out 3))
    refine bodyPost_ret (results_ct rfl _ _ gb142 28 #[.int .i64 0, .int .i64 0, .int .i64 0, .int .i64 0] (0, 0) _ rfl (by (with_reducible skip); refine blk_put (cs := #[.int .i64 0, .int .i64 0, .int .i64 0, .int .i64 0]) ?_ 3 _ rfl; (with_reducible skip); refine blk_put (cs := #[.int .i64 0, .int .i64 0, .int .i64 0, .int .i64 0]) ?_ 2 _ rfl; (with_reducible skip); refine blk_put (cs := #[.int .i64 0, .int .i64 0, .int .i64 0, .int .i64 0]) ?_ 1 _ rfl; (with_reducible skip); refine blk_put (cs := #[.int .i64 0, .int .i64 0, .int .i64 0, .int .i64 0]) ?_ 0 _ rfl; (with_reducible skip); exact BK142.out) Try.underlying28 rfl (by kernel_rfl)) rfl ?_
    exact ⟨by (rfl), by repeat (with_reducible first | exact HB.out | refine below_set ?_ GE142.out)⟩

/-! ### fold_near: function 33 -/
def fold_near.f (a0_0 : Int) (a0_1 : Int) : Option (Bool) := if (mx a0_0 a0_1) ≤ 1099511627776 then (some (decide ((mn a0_0 a0_1) ≥ (-1099511627776)))) else (some false)
set_option maxHeartbeats 8000000 in
set_option maxRecDepth 100000 in
theorem fold_near.calls (a0_0 : Int) (a0_1 : Int) (r : Bool) (w : World) (h : fold_near.f a0_0 a0_1 = some r) :
    Calls Try.prog 33 #[.agg #[.int .i64 a0_0, .int .i64 a0_1]] w fun e w' => e = .returned (.bool r) ∧ Below w.heap.size w w' := by
  have hu33 := Try.underlying33
  have HB := Aside0.mk (Below.refl w.heap.size w)
  have H : (if (mx a0_0 a0_1) ≤ 1099511627776 then (some (decide ((mn a0_0 a0_1) ≥ (-1099511627776)))) else (some false)) = some r := h
  clear h
  obtain ⟨ji2, hji2⟩ : ∃ j_ : Int, (mx a0_0 a0_1) = j_ := ⟨_, rfl⟩
  replace H : (if (ji2) ≤ 1099511627776 then (some (decide ((mn a0_0 a0_1) ≥ (-1099511627776)))) else (some false)) = some r := by (rw [hji2] at H; exact H)
  have hji2_ : (if a0_0 < a0_1 then a0_1 else a0_0) = ji2 := hji2
  by_cases c3 : (ji2) ≤ 1099511627776
  · rw [if_pos c3] at H
    have c3b0 : decide ((ji2) ≤ 1099511627776) = true := decide_eq_true c3
    clear c3
    obtain ⟨ji4, hji4⟩ : ∃ j_ : Int, (mn a0_0 a0_1) = j_ := ⟨_, rfl⟩
    replace H : (some (decide ((ji4) ≥ (-1099511627776)))) = some r := by (rw [hji4] at H; exact H)
    have hji4_ : (if a0_1 < a0_0 then a0_1 else a0_0) = ji4 := hji4
    obtain rfl := Option.some.inj H
    go_enter Try.func33, Try.ntmps33
    go_wp2_with ((((with_reducible refine gate_dst (N := 1) rfl ?_); (try (refine gate_guard (by rfl) ?_; dsimp only)); refine box_event ?hg (N := 1) ?hd (cs := #[.int .i64 a0_0, .int .i64 a0_1]) (t := 33) ?hr ?_; (case hd => rfl); (case hg => rfl); (case hr => (go_simp; done)); intro gb144 hg w5 hbox hb; have BK144 := Aside0.mk hbox; have GW144 := Aside0.mk ((by rw [hg]; exact (below_size HB.out) : w.heap.size ≤ gb144)); have GE144 := Aside0.mk ((by rw [hg]; exact (below_size HB.out) : w.heap.size ≤ gb144)); replace HB := Aside0.mk (below_step HB.out hb); clear hb hbox hg; have hcz6_0 : w5.cell? ⟨gb144, 0, none⟩ = some (.int .i64 a0_0) := (blk_cell BK144.out 0).trans rfl; have hcz6_1 : w5.cell? ⟨gb144, 1, none⟩ = some (.int .i64 a0_1) := (blk_cell BK144.out 1).trans rfl; have hfz6_0 := blk_frozen BK144.out 0; have hfz6_1 := blk_frozen BK144.out 1)))
    go_ret
    exact ⟨by (rfl), by repeat (with_reducible (exact HB.out))⟩
  · rw [if_neg c3] at H
    have c3b0 : decide ((ji2) ≤ 1099511627776) = false := decide_eq_false c3
    clear c3
    obtain rfl := Option.some.inj H
    go_enter Try.func33, Try.ntmps33
    go_wp2_with ((((with_reducible refine gate_dst (N := 1) rfl ?_); (try (refine gate_guard (by rfl) ?_; dsimp only)); refine box_event ?hg (N := 1) ?hd (cs := #[.int .i64 a0_0, .int .i64 a0_1]) (t := 33) ?hr ?_; (case hd => rfl); (case hg => rfl); (case hr => (go_simp; done)); intro gb144 hg w7 hbox hb; have BK144 := Aside0.mk hbox; have GW144 := Aside0.mk ((by rw [hg]; exact (below_size HB.out) : w.heap.size ≤ gb144)); have GE144 := Aside0.mk ((by rw [hg]; exact (below_size HB.out) : w.heap.size ≤ gb144)); replace HB := Aside0.mk (below_step HB.out hb); clear hb hbox hg; have hcz8_0 : w7.cell? ⟨gb144, 0, none⟩ = some (.int .i64 a0_0) := (blk_cell BK144.out 0).trans rfl; have hcz8_1 : w7.cell? ⟨gb144, 1, none⟩ = some (.int .i64 a0_1) := (blk_cell BK144.out 1).trans rfl; have hfz8_0 := blk_frozen BK144.out 0; have hfz8_1 := blk_frozen BK144.out 1)))
    go_ret
    exact ⟨by (rfl), by repeat (with_reducible (exact HB.out))⟩

/-! ### fold_of: function 18 -/
def fold_of.l0 : Nat → List (S33) → Int → Int → Int → Int → Int → Int → Int → Option (Int × Int × Int × Int × Int × Int × Int × Int)
  | 0, _, _, _, _, _, _, _, _ => none
  | k + 1, x14, x15, x16, x146000, x146001, x146002, x146003, x146004 => if x16 < x15 then (if 0 ≤ x16 then (if x16 < (x14.length : Int) then ((fold_near.f ((rd_T33 x14 x16).f0) ((rd_T33 x14 x16).f1)).bind fun t150 => (if t150 = true then (fold_of.l0 k x14 x15 (wrap64 (x16 + 1)) x146000 x146001 x146002 x146003 x146004) else (some (0, 0, 0, 0, 0, 0, 0, 5)))) else (none)) else (none)) else ((topo_Home.f k x146000 x146001 x146002 x146003 x146004).bind fun bt151 => (some (x146000, x146001, x146002, x146003, x146004, bt151.1, bt151.2.1, bt151.2.2.2.2)))
def fold_of.f (k : Nat) (a0_0 : Int) (a0_1 : Int) (a0_2 : Int) (a0_3 : Int) (a0_4 : Int) (l1 : List (S33)) : Option (Int × Int × Int × Int × Int × Int × Int × Int) := (topo_Check.f k a0_0 a0_1 a0_2 a0_3 a0_4).bind fun t147 => (if t147 = 0 then (fold_of.l0 k l1 (l1.length : Int) 0 a0_0 a0_1 a0_2 a0_3 a0_4) else (some (0, 0, 0, 0, 0, 0, 0, 9)))
theorem fold_of.mono_l : ∀ k, (∀ y0 y1 y2 y3 y4 y5 y6 y7, LeO (fold_of.l0 k y0 y1 y2 y3 y4 y5 y6 y7) (fold_of.l0 (k + 1) y0 y1 y2 y3 y4 y5 y6 y7))
  | 0 => fun _ _ _ _ _ _ _ _ r h => by simp [fold_of.l0] at h
  | k + 1 => by
    have ih0 := fold_of.mono_l k
    · intro y0 y1 y2 y3 y4 y5 y6 y7
      unfold fold_of.l0
      repeat' first
      | (with_reducible exact ih0 _ _ _ _ _ _ _ _)
      | (with_reducible exact topo_Home.mono _ _ _ _ _ _)
      | (with_reducible exact LeO.refl _)
      | (with_reducible refine LeO.ite ?_ ?_)
      | (with_reducible refine LeO.bind ?_ (fun _ => ?_))
theorem fold_of.mono : ∀ a0 a1 a2 a3 a4 a5 k, LeO (fold_of.f k a0 a1 a2 a3 a4 a5) (fold_of.f (k + 1) a0 a1 a2 a3 a4 a5) := by
  intro a0 a1 a2 a3 a4 a5 k
  have ih0 := fold_of.mono_l k
  unfold fold_of.f
  repeat' first
      | (with_reducible exact ih0 _ _ _ _ _ _ _ _)
      | (with_reducible exact topo_Check.mono _ _ _ _ _ _)
      | (with_reducible exact LeO.refl _)
      | (with_reducible refine LeO.ite ?_ ?_)
      | (with_reducible refine LeO.bind ?_ (fun _ => ?_))
set_option maxHeartbeats 8000000 in
set_option maxRecDepth 100000 in
theorem fold_of.calls (k : Nat) (a0_0 : Int) (a0_1 : Int) (a0_2 : Int) (a0_3 : Int) (a0_4 : Int) (A1 : Option Addr) (c1 : Nat) (l1 : List (S33)) (r1 : Int) (r2 : Int) (r3 : Int) (r4 : Int) (r5 : Int) (r6 : Int) (r7 : Int) (r8 : Int) (w : World) (hr1 : Kd.C k33 w A1 l1.length l1) (hc1 : l1.length ≤ c1) (h : fold_of.f k a0_0 a0_1 a0_2 a0_3 a0_4 l1 = some (r1, r2, r3, r4, r5, r6, r7, r8)) :
    Calls Try.prog 18 #[.agg #[.int .u8 a0_0, .int .i64 a0_1, .int .i64 a0_2, .int .u8 a0_3, .int .i64 a0_4], .slice A1 l1.length c1] w fun e w' => e = .returned (.tuple #[.agg #[.int .u8 r1, .int .i64 r2, .int .i64 r3, .int .u8 r4, .int .i64 r5, .int .i64 r6, .int .i64 r7], .int .i64 r8]) ∧ Below w.heap.size w w' := by
  have hu23 := Try.underlying23
  have hu56 := Try.underlying56
  have hu33 := Try.underlying33
  have hu28 := Try.underlying28
  have HR1 := Aside0.mk hr1
  have HC1 := Aside0.mk hc1
  clear hr1 hc1
  have HB := Aside0.mk (Below.refl w.heap.size w)
  have H : ((topo_Check.f k a0_0 a0_1 a0_2 a0_3 a0_4).bind fun t147 => (if t147 = 0 then (fold_of.l0 k l1 (l1.length : Int) 0 a0_0 a0_1 a0_2 a0_3 a0_4) else (some (0, 0, 0, 0, 0, 0, 0, 9)))) = some (r1, r2, r3, r4, r5, r6, r7, r8) := h
  clear h
  replace H := Option.bind_eq_some_iff.mp H
  obtain ⟨t147, A30, H⟩ := H
  replace H : (if t147 = 0 then (fold_of.l0 k l1 (l1.length : Int) 0 a0_0 a0_1 a0_2 a0_3 a0_4) else (some (0, 0, 0, 0, 0, 0, 0, 9))) = some (r1, r2, r3, r4, r5, r6, r7, r8) := H
  have A3 := Aside0.mk A30
  clear A30
  by_cases c4 : t147 = 0
  · rw [if_pos c4] at H
    have c4b0 : (t147 == 0) = true := beq_iff_eq.mpr c4
    have c4b1 : (t147 != 0) = false := bne_eq_false_iff_eq.mpr c4
    clear c4
    have H' := Aside0.mk H
    clear H
    go_enter Try.func18, Try.ntmps18
    go_wp2_with (first | ((with_reducible refine gate_dst (N := 2) rfl ?_); refine box_event ?hg (N := 2) ?hd (cs := #[.int .u8 a0_0, .int .i64 a0_1, .int .i64 a0_2, .int .u8 a0_3, .int .i64 a0_4]) (t := 23) ?hr ?_; (case hd => rfl); (case hg => rfl); (case hr => (go_simp; done)); intro gb145 hg w5 hbox hb; have BK145 := Aside0.mk hbox; have GW145 := Aside0.mk ((by rw [hg]; exact (below_size HB.out) : w.heap.size ≤ gb145)); have GE145 := Aside0.mk ((by rw [hg]; exact (below_size HB.out) : w.heap.size ≤ gb145)); replace HB := Aside0.mk (below_step HB.out hb); clear hb hbox hg) | ((with_reducible refine gate_dst (N := 4) rfl ?_); refine box_event ?hg (N := 4) ?hd (cs := #[.int .u8 0, .int .i64 0, .int .i64 0, .int .u8 0, .int .i64 0, .int .i64 0, .int .i64 0]) (t := 56) ?hr ?_; (case hd => rfl); (case hg => rfl); (case hr => (go_simp; done)); intro gb146 hg w6 hbox hb; have BK146 := Aside0.mk hbox; have GW146 := Aside0.mk ((by rw [hg]; exact (below_size HB.out) : w.heap.size ≤ gb146)); have GE146 := Aside0.mk ((by rw [hg]; exact (below_size HB.out) : w.heap.size ≤ gb146)); have NB145_146 := Aside0.mk ((by rw [hg]; exact Nat.ne_of_lt (blk_lt BK145.out) : gb145 ≠ gb146)); have NB146_145 := Aside0.mk ((by rw [hg]; exact Nat.ne_of_gt (blk_lt BK145.out) : gb146 ≠ gb145)); replace BK145 := Aside0.mk (blk_below BK145.out hb); replace HB := Aside0.mk (below_step HB.out hb); clear hb hbox hg; have hnb7 := NB145_146.out; have hnc7 := NB146_145.out; have hcz8_0 : w6.cell? ⟨gb145, 0, none⟩ = some (.int .u8 a0_0) := (blk_cell BK145.out 0).trans rfl; have hcz8_1 : w6.cell? ⟨gb145, 1, none⟩ = some (.int .i64 a0_1) := (blk_cell BK145.out 1).trans rfl; have hcz8_2 : w6.cell? ⟨gb145, 2, none⟩ = some (.int .i64 a0_2) := (blk_cell BK145.out 2).trans rfl; have hcz8_3 : w6.cell? ⟨gb145, 3, none⟩ = some (.int .u8 a0_3) := (blk_cell BK145.out 3).trans rfl; have hcz8_4 : w6.cell? ⟨gb145, 4, none⟩ = some (.int .i64 a0_4) := (blk_cell BK145.out 4).trans rfl; have hfz8_0 := blk_frozen BK145.out 0; have hfz8_1 := blk_frozen BK145.out 1; have hfz8_2 := blk_frozen BK145.out 2; have hfz8_3 := blk_frozen BK145.out 3; have hfz8_4 := blk_frozen BK145.out 4) | ((with_reducible refine gate_callee (f := 6) rfl ?_); refine goesL_ (some 11) rfl rfl Try.func6 (by kernel_rfl) rfl #[.agg #[.int .u8 a0_0, .int .i64 a0_1, .int .i64 a0_2, .int .u8 a0_3, .int .i64 a0_4]] rfl (by (try simp only [List.map_toArray, List.map_cons, List.map_nil]); (rfl)) ?_; (with_reducible refine (topo_Check.calls k a0_0 a0_1 a0_2 a0_3 a0_4 t147 _ A3.out).mono ?_); rintro e w9 ⟨rfl, hb⟩; refine ⟨_, rfl, ?_⟩; replace BK145 := Aside0.mk (blk_below BK145.out hb); replace BK146 := Aside0.mk (blk_below BK146.out hb); replace HB := Aside0.mk (below_step HB.out hb); (try clear hb)))
    go_loopg [16] k (fun kq v16 w' => ∃ (x16_1 : Int) (x147000_1 : Int) (x147001_1 : Int) (x147002_1 : Int) (x147003_1 : Int) (x147004_1 : Int) (x147005_1 : Int) (x147006_1 : Int), v16 = .int .i64 x16_1 ∧ Aside0 (fold_of.l0 kq l1 (l1.length : Int) x16_1 a0_0 a0_1 a0_2 a0_3 a0_4 = some (r1, r2, r3, r4, r5, r6, r7, r8)) ∧ Aside0 (kq ≤ k) ∧ Aside0 (w'.heap[gb145]? = some (.cells #[.int .u8 a0_0, .int .i64 a0_1, .int .i64 a0_2, .int .u8 a0_3, .int .i64 a0_4] 23 (0, 0))) ∧ Aside0 (w'.heap[gb146]? = some (.cells #[.int .u8 x147000_1, .int .i64 x147001_1, .int .i64 x147002_1, .int .u8 x147003_1, .int .i64 x147004_1, .int .i64 x147005_1, .int .i64 x147006_1] 56 (0, 0))) ∧ Aside0 (Below w.heap.size w w'))
    case atStart => exact ⟨(0), (0), (0), (0), (0), (0), (0), (0), (by (rfl)), H', ⟨Nat.le_refl _⟩, ⟨by (with_reducible skip); exact BK145.out⟩, ⟨by (with_reducible skip); exact BK146.out⟩, ⟨by repeat (with_reducible (exact HB.out))⟩⟩
    case round =>
      clear H'
      try clear c4b0
      try clear c4b1
      try clear hcz8_0
      try clear hcz8_1
      try clear hcz8_2
      try clear hcz8_3
      try clear hcz8_4
      try clear hfz8_0
      try clear hfz8_1
      try clear hfz8_2
      try clear hfz8_3
      try clear hfz8_4
      obtain ⟨x16_1, x147000_1, x147001_1, x147002_1, x147003_1, x147004_1, x147005_1, x147006_1, rfl, HA, HK1, BK145, BK146, HB⟩ := hrel
      cases gk with
      | zero => exact absurd HA.out (by simp [fold_of.l0])
      | succ k1 =>
        have H := HA.out
        clear HA
        simp only [fold_of.l0] at H
        by_cases c10 : x16_1 < (l1.length : Int)
        · rw [if_pos c10] at H
          have c10b0 : decide (x16_1 < (l1.length : Int)) = true := decide_eq_true c10
          clear c10
          by_cases c11 : 0 ≤ x16_1
          · rw [if_pos c11] at H
            have c11b0 : decide (0 ≤ x16_1) = true := decide_eq_true c11
            clear c11
            by_cases c12 : x16_1 < (l1.length : Int)
            · rw [if_pos c12] at H
              have c12b0 : decide (x16_1 < (l1.length : Int)) = true := decide_eq_true c12
              clear c12
              replace H := Option.bind_eq_some_iff.mp H
              obtain ⟨t150, A130, H⟩ := H
              replace H : (if t150 = true then (fold_of.l0 k1 l1 (l1.length : Int) (wrap64 (x16_1 + 1)) a0_0 a0_1 a0_2 a0_3 a0_4) else (some (0, 0, 0, 0, 0, 0, 0, 5))) = some (r1, r2, r3, r4, r5, r6, r7, r8) := H
              have A13 := Aside0.mk A130
              clear A130
              by_cases c14 : t150 = true
              · subst c14
                have H1 : (fold_of.l0 k1 l1 (l1.length : Int) (wrap64 (x16_1 + 1)) a0_0 a0_1 a0_2 a0_3 a0_4) = some (r1, r2, r3, r4, r5, r6, r7, r8) := by rw [if_pos rfl] at H; exact H
                clear H
                have H := H1
                clear H1
                have H' := Aside0.mk H
                clear H
                have p148 : 0 ≤ (x16_1 : Int) := of_decide_eq_true (by (with_reducible assumption))
                have q148 : x16_1 < (l1.length : Int) := of_decide_eq_true (by (with_reducible assumption))
                obtain ⟨ad148, e148, hx148_0, hx148_1⟩ := at_T33 HR1.out x16_1 p148 q148
                cases e148
                replace hx148_0 := (HB.out.cell (World.block_lt_of_cell? w _ hx148_0)).trans hx148_0
                replace hx148_1 := (HB.out.cell (World.block_lt_of_cell? w _ hx148_1)).trans hx148_1
                replace p148 := eq_true p148
                replace q148 := eq_true q148
                go_wp2_with (first | ((with_reducible refine gate_dst (N := 7) rfl ?_); refine box_event ?hg (N := 7) ?hd (cs := #[.int .i64 0, .int .i64 0]) (t := 33) ?hr ?_; (case hd => rfl); (case hg => rfl); (case hr => (go_simp; done)); intro gb149 hg w15 hbox hb; have BK149 := Aside0.mk hbox; have GW149 := Aside0.mk ((by rw [hg]; exact (below_size HB.out) : w.heap.size ≤ gb149)); have GE149 := Aside0.mk ((by rw [hg]; exact (below_size HB.out) : w.heap.size ≤ gb149)); have NB145_149 := Aside0.mk ((by rw [hg]; exact Nat.ne_of_lt (blk_lt BK145.out) : gb145 ≠ gb149)); have NB149_145 := Aside0.mk ((by rw [hg]; exact Nat.ne_of_gt (blk_lt BK145.out) : gb149 ≠ gb145)); have NB146_149 := Aside0.mk ((by rw [hg]; exact Nat.ne_of_lt (blk_lt BK146.out) : gb146 ≠ gb149)); have NB149_146 := Aside0.mk ((by rw [hg]; exact Nat.ne_of_gt (blk_lt BK146.out) : gb149 ≠ gb146)); replace BK145 := Aside0.mk (blk_below BK145.out hb); replace BK146 := Aside0.mk (blk_below BK146.out hb); replace HB := Aside0.mk (below_step HB.out hb); clear hb hbox hg; have hnb16 := NB149_145.out; have hnc16 := NB145_149.out; have hnb17 := NB149_146.out; have hnc17 := NB146_149.out; have hcz18_0 : w15.cell? ⟨gb149, 0, none⟩ = some (.int .i64 0) := (blk_cell BK149.out 0).trans rfl; have hcz18_1 : w15.cell? ⟨gb149, 1, none⟩ = some (.int .i64 0) := (blk_cell BK149.out 1).trans rfl; have hfz18_0 := blk_frozen BK149.out 0; have hfz18_1 := blk_frozen BK149.out 1) | ((with_reducible refine gate_callee (f := 33) rfl ?_); refine goesL_ (some 21) rfl rfl Try.func33 (by kernel_rfl) rfl #[.agg #[.int .i64 ((rd_T33 l1 x16_1).f0), .int .i64 ((rd_T33 l1 x16_1).f1)]] rfl (by (try simp only [List.map_toArray, List.map_cons, List.map_nil]); (rfl)) ?_; (with_reducible refine (fold_near.calls ((rd_T33 l1 x16_1).f0) ((rd_T33 l1 x16_1).f1) true _ A13.out).mono ?_); rintro e w19 ⟨rfl, hb⟩; refine ⟨_, rfl, ?_⟩; replace BK145 := Aside0.mk (blk_below (blk_far (blk_far BK145.out NB145_149.out _) NB145_149.out _) hb); replace BK146 := Aside0.mk (blk_below (blk_far (blk_far BK146.out NB146_149.out _) NB146_149.out _) hb); replace BK149 := Aside0.mk (blk_below (g := gb149) (o := .cells #[.int .i64 ((rd_T33 l1 x16_1).f0), .int .i64 ((rd_T33 l1 x16_1).f1)] 33 (0, 0)) (by (with_reducible skip); refine blk_put (cs := #[.int .i64 ((rd_T33 l1 x16_1).f0), .int .i64 0]) ?_ 1 _ rfl; (with_reducible skip); refine blk_put (cs := #[.int .i64 0, .int .i64 0]) ?_ 0 _ rfl; (with_reducible skip); exact BK149.out) hb); replace HB := Aside0.mk (below_step (by repeat (with_reducible first | exact HB.out | refine below_set ?_ GE149.out)) hb); (try clear hb)))
                go_roundg k1
                case measure => have := HK1.out; omega
                case rel => exact ⟨(wrap64 (x16_1 + 1)), (x147000_1), (x147001_1), (x147002_1), (x147003_1), (x147004_1), (x147005_1), (x147006_1), (by (rfl)), H', ⟨by have := HK1.out; omega⟩, ⟨by (with_reducible skip); exact BK145.out⟩, ⟨by (with_reducible skip); exact BK146.out⟩, ⟨by repeat (with_reducible (exact HB.out))⟩⟩
              · replace c14 := Bool.eq_false_iff.mpr c14
                subst c14
                have H1 : (some (0, 0, 0, 0, 0, 0, 0, 5)) = some (r1, r2, r3, r4, r5, r6, r7, r8) := by rw [if_neg (show ¬ (false = true) by decide)] at H; exact H
                clear H
                have H := H1
                clear H1
                simp only [Option.some.injEq, Prod.mk.injEq] at H
                obtain ⟨rfl, rfl, rfl, rfl, rfl, rfl, rfl, rfl⟩ := H
                have p148 : 0 ≤ (x16_1 : Int) := of_decide_eq_true (by (with_reducible assumption))
                have q148 : x16_1 < (l1.length : Int) := of_decide_eq_true (by (with_reducible assumption))
                obtain ⟨ad148, e148, hx148_0, hx148_1⟩ := at_T33 HR1.out x16_1 p148 q148
                cases e148
                replace hx148_0 := (HB.out.cell (World.block_lt_of_cell? w _ hx148_0)).trans hx148_0
                replace hx148_1 := (HB.out.cell (World.block_lt_of_cell? w _ hx148_1)).trans hx148_1
                replace p148 := eq_true p148
                replace q148 := eq_true q148
                go_wp2_with (first | ((with_reducible refine gate_dst (N := 7) rfl ?_); refine box_event ?hg (N := 7) ?hd (cs := #[.int .i64 0, .int .i64 0]) (t := 33) ?hr ?_; (case hd => rfl); (case hg => rfl); (case hr => (go_simp; done)); intro gb149 hg w20 hbox hb; have BK149 := Aside0.mk hbox; have GW149 := Aside0.mk ((by rw [hg]; exact (below_size HB.out) : w.heap.size ≤ gb149)); have GE149 := Aside0.mk ((by rw [hg]; exact (below_size HB.out) : w.heap.size ≤ gb149)); have NB145_149 := Aside0.mk ((by rw [hg]; exact Nat.ne_of_lt (blk_lt BK145.out) : gb145 ≠ gb149)); have NB149_145 := Aside0.mk ((by rw [hg]; exact Nat.ne_of_gt (blk_lt BK145.out) : gb149 ≠ gb145)); have NB146_149 := Aside0.mk ((by rw [hg]; exact Nat.ne_of_lt (blk_lt BK146.out) : gb146 ≠ gb149)); have NB149_146 := Aside0.mk ((by rw [hg]; exact Nat.ne_of_gt (blk_lt BK146.out) : gb149 ≠ gb146)); replace BK145 := Aside0.mk (blk_below BK145.out hb); replace BK146 := Aside0.mk (blk_below BK146.out hb); replace HB := Aside0.mk (below_step HB.out hb); clear hb hbox hg; have hnb21 := NB149_145.out; have hnc21 := NB145_149.out; have hnb22 := NB149_146.out; have hnc22 := NB146_149.out; have hcz23_0 : w20.cell? ⟨gb149, 0, none⟩ = some (.int .i64 0) := (blk_cell BK149.out 0).trans rfl; have hcz23_1 : w20.cell? ⟨gb149, 1, none⟩ = some (.int .i64 0) := (blk_cell BK149.out 1).trans rfl; have hfz23_0 := blk_frozen BK149.out 0; have hfz23_1 := blk_frozen BK149.out 1) | ((with_reducible refine gate_callee (f := 33) rfl ?_); refine goesL_ (some 21) rfl rfl Try.func33 (by kernel_rfl) rfl #[.agg #[.int .i64 ((rd_T33 l1 x16_1).f0), .int .i64 ((rd_T33 l1 x16_1).f1)]] rfl (by (try simp only [List.map_toArray, List.map_cons, List.map_nil]); (rfl)) ?_; (with_reducible refine (fold_near.calls ((rd_T33 l1 x16_1).f0) ((rd_T33 l1 x16_1).f1) false _ A13.out).mono ?_); rintro e w24 ⟨rfl, hb⟩; refine ⟨_, rfl, ?_⟩; replace BK145 := Aside0.mk (blk_below (blk_far (blk_far BK145.out NB145_149.out _) NB145_149.out _) hb); replace BK146 := Aside0.mk (blk_below (blk_far (blk_far BK146.out NB146_149.out _) NB146_149.out _) hb); replace BK149 := Aside0.mk (blk_below (g := gb149) (o := .cells #[.int .i64 ((rd_T33 l1 x16_1).f0), .int .i64 ((rd_T33 l1 x16_1).f1)] 33 (0, 0)) (by (with_reducible skip); refine blk_put (cs := #[.int .i64 ((rd_T33 l1 x16_1).f0), .int .i64 0]) ?_ 1 _ rfl; (with_reducible skip); refine blk_put (cs := #[.int .i64 0, .int .i64 0]) ?_ 0 _ rfl; (with_reducible skip); exact BK149.out) hb); replace HB := Aside0.mk (below_step (by repeat (with_reducible first | exact HB.out | refine below_set ?_ GE149.out)) hb); (try clear hb); have hnb25 := NB146_145.out; have hnc25 := NB145_146.out; have hcz26_0 : w24.cell? ⟨gb146, 0, none⟩ = some (.int .u8 x147000_1) := (blk_cell BK146.out 0).trans rfl; have hcz26_1 : w24.cell? ⟨gb146, 1, none⟩ = some (.int .i64 x147001_1) := (blk_cell BK146.out 1).trans rfl; have hcz26_2 : w24.cell? ⟨gb146, 2, none⟩ = some (.int .i64 x147002_1) := (blk_cell BK146.out 2).trans rfl; have hcz26_3 : w24.cell? ⟨gb146, 3, none⟩ = some (.int .u8 x147003_1) := (blk_cell BK146.out 3).trans rfl; have hcz26_4 : w24.cell? ⟨gb146, 4, none⟩ = some (.int .i64 x147004_1) := (blk_cell BK146.out 4).trans rfl; have hcz26_5 : w24.cell? ⟨gb146, 5, none⟩ = some (.int .i64 x147005_1) := (blk_cell BK146.out 5).trans rfl; have hcz26_6 : w24.cell? ⟨gb146, 6, none⟩ = some (.int .i64 x147006_1) := (blk_cell BK146.out 6).trans rfl; have hfz26_0 := blk_frozen BK146.out 0; have hfz26_1 := blk_frozen BK146.out 1; have hfz26_2 := blk_frozen BK146.out 2; have hfz26_3 := blk_frozen BK146.out 3; have hfz26_4 := blk_frozen BK146.out 4; have hfz26_5 := blk_frozen BK146.out 5; have hfz26_6 := blk_frozen BK146.out 6))
                refine bodyPost_ret (results_ct rfl _ _ gb146 56 #[.int .u8 0, .int .i64 0, .int .i64 0, .int .u8 0, .int .i64 0, .int .i64 0, .int .i64 0] (0, 0) _ rfl (by (with_reducible skip); refine blk_put (cs := #[.int .u8 0, .int .i64 0, .int .i64 0, .int .u8 0, .int .i64 0, .int .i64 0, .int .i64 x147006_1]) ?_ 6 _ rfl; (with_reducible skip); refine blk_put (cs := #[.int .u8 0, .int .i64 0, .int .i64 0, .int .u8 0, .int .i64 0, .int .i64 x147005_1, .int .i64 x147006_1]) ?_ 5 _ rfl; (with_reducible skip); refine blk_put (cs := #[.int .u8 0, .int .i64 0, .int .i64 0, .int .u8 0, .int .i64 x147004_1, .int .i64 x147005_1, .int .i64 x147006_1]) ?_ 4 _ rfl; (with_reducible skip); refine blk_put (cs := #[.int .u8 0, .int .i64 0, .int .i64 0, .int .u8 x147003_1, .int .i64 x147004_1, .int .i64 x147005_1, .int .i64 x147006_1]) ?_ 3 _ rfl; (with_reducible skip); refine blk_put (cs := #[.int .u8 0, .int .i64 0, .int .i64 x147002_1, .int .u8 x147003_1, .int .i64 x147004_1, .int .i64 x147005_1, .int .i64 x147006_1]) ?_ 2 _ rfl; (with_reducible skip); refine blk_put (cs := #[.int .u8 0, .int .i64 x147001_1, .int .i64 x147002_1, .int .u8 x147003_1, .int .i64 x147004_1, .int .i64 x147005_1, .int .i64 x147006_1]) ?_ 1 _ rfl; (with_reducible skip); refine blk_put (cs := #[.int .u8 x147000_1, .int .i64 x147001_1, .int .i64 x147002_1, .int .u8 x147003_1, .int .i64 x147004_1, .int .i64 x147005_1, .int .i64 x147006_1]) ?_ 0 _ rfl; (with_reducible skip); exact BK146.out) Try.underlying56 rfl (by kernel_rfl)) rfl ?_
                exact ⟨by (rfl), by repeat (with_reducible first | exact HB.out | refine below_set ?_ GE146.out)⟩
            · rw [if_neg c12] at H
              exact absurd H (by simp)
          · rw [if_neg c11] at H
            exact absurd H (by simp)
        · rw [if_neg c10] at H
          have c10b0 : decide (x16_1 < (l1.length : Int)) = false := decide_eq_false c10
          clear c10
          replace H := Option.bind_eq_some_iff.mp H
          obtain ⟨⟨t151, t152, t153, t154, t155⟩, A270, H⟩ := H
          replace H : (some (a0_0, a0_1, a0_2, a0_3, a0_4, t151, t152, t155)) = some (r1, r2, r3, r4, r5, r6, r7, r8) := H
          have A27 := Aside0.mk A270
          clear A270
          simp only [Option.some.injEq, Prod.mk.injEq] at H
          obtain ⟨rfl, rfl, rfl, rfl, rfl, rfl, rfl, rfl⟩ := H
          have hnb28 := NB145_146.out
          have hnc28 := NB146_145.out
          have hcz29_0 : wr.cell? ⟨gb145, 0, none⟩ = some (.int .u8 a0_0) := (blk_cell BK145.out 0).trans rfl
          have hcz29_1 : wr.cell? ⟨gb145, 1, none⟩ = some (.int .i64 a0_1) := (blk_cell BK145.out 1).trans rfl
          have hcz29_2 : wr.cell? ⟨gb145, 2, none⟩ = some (.int .i64 a0_2) := (blk_cell BK145.out 2).trans rfl
          have hcz29_3 : wr.cell? ⟨gb145, 3, none⟩ = some (.int .u8 a0_3) := (blk_cell BK145.out 3).trans rfl
          have hcz29_4 : wr.cell? ⟨gb145, 4, none⟩ = some (.int .i64 a0_4) := (blk_cell BK145.out 4).trans rfl
          have hfz29_0 := blk_frozen BK145.out 0
          have hfz29_1 := blk_frozen BK145.out 1
          have hfz29_2 := blk_frozen BK145.out 2
          have hfz29_3 := blk_frozen BK145.out 3
          have hfz29_4 := blk_frozen BK145.out 4
          go_wp2_with (first | ((with_reducible refine gate_callee (f := 7) rfl ?_); refine goesL_ (some 27) rfl rfl Try.func7 (by kernel_rfl) rfl #[.agg #[.int .u8 a0_0, .int .i64 a0_1, .int .i64 a0_2, .int .u8 a0_3, .int .i64 a0_4]] rfl (by (try simp only [List.map_toArray, List.map_cons, List.map_nil]); (rfl)) ?_; (with_reducible refine (topo_Home.calls k1 a0_0 a0_1 a0_2 a0_3 a0_4 t151 t152 t153 t154 t155 _ A27.out).mono ?_); rintro e w30 ⟨rfl, hb⟩; refine ⟨_, rfl, ?_⟩; replace BK145 := Aside0.mk (blk_below BK145.out hb); replace BK146 := Aside0.mk (blk_below BK146.out hb); replace HB := Aside0.mk (below_step HB.out hb); (try clear hb)) | ((with_reducible refine gate_dst (N := 8) rfl ?_); refine box_event ?hg (N := 8) ?hd (cs := #[.int .i64 0, .int .i64 0, .int .i64 0, .int .i64 0]) (t := 28) ?hr ?_; (case hd => rfl); (case hg => rfl); (case hr => (go_simp; done)); intro gb156 hg w31 hbox hb; have BK156 := Aside0.mk hbox; have GW156 := Aside0.mk ((by rw [hg]; exact (below_size HB.out) : w.heap.size ≤ gb156)); have GE156 := Aside0.mk ((by rw [hg]; exact (below_size HB.out) : w.heap.size ≤ gb156)); have NB145_156 := Aside0.mk ((by rw [hg]; exact Nat.ne_of_lt (blk_lt BK145.out) : gb145 ≠ gb156)); have NB156_145 := Aside0.mk ((by rw [hg]; exact Nat.ne_of_gt (blk_lt BK145.out) : gb156 ≠ gb145)); have NB146_156 := Aside0.mk ((by rw [hg]; exact Nat.ne_of_lt (blk_lt BK146.out) : gb146 ≠ gb156)); have NB156_146 := Aside0.mk ((by rw [hg]; exact Nat.ne_of_gt (blk_lt BK146.out) : gb156 ≠ gb146)); replace BK145 := Aside0.mk (blk_below BK145.out hb); replace BK146 := Aside0.mk (blk_below BK146.out hb); replace HB := Aside0.mk (below_step HB.out hb); clear hb hbox hg; have hnb32 := NB156_145.out; have hnc32 := NB145_156.out; have hnb33 := NB156_146.out; have hnc33 := NB146_156.out; have hcz34_0 : w31.cell? ⟨gb156, 0, none⟩ = some (.int .i64 0) := (blk_cell BK156.out 0).trans rfl; have hcz34_1 : w31.cell? ⟨gb156, 1, none⟩ = some (.int .i64 0) := (blk_cell BK156.out 1).trans rfl; have hcz34_2 : w31.cell? ⟨gb156, 2, none⟩ = some (.int .i64 0) := (blk_cell BK156.out 2).trans rfl; have hcz34_3 : w31.cell? ⟨gb156, 3, none⟩ = some (.int .i64 0) := (blk_cell BK156.out 3).trans rfl; have hfz34_0 := blk_frozen BK156.out 0; have hfz34_1 := blk_frozen BK156.out 1; have hfz34_2 := blk_frozen BK156.out 2; have hfz34_3 := blk_frozen BK156.out 3; have hcz35_0 : w31.cell? ⟨gb145, 0, none⟩ = some (.int .u8 a0_0) := (blk_cell BK145.out 0).trans rfl; have hcz35_1 : w31.cell? ⟨gb145, 1, none⟩ = some (.int .i64 a0_1) := (blk_cell BK145.out 1).trans rfl; have hcz35_2 : w31.cell? ⟨gb145, 2, none⟩ = some (.int .i64 a0_2) := (blk_cell BK145.out 2).trans rfl; have hcz35_3 : w31.cell? ⟨gb145, 3, none⟩ = some (.int .u8 a0_3) := (blk_cell BK145.out 3).trans rfl; have hcz35_4 : w31.cell? ⟨gb145, 4, none⟩ = some (.int .i64 a0_4) := (blk_cell BK145.out 4).trans rfl; have hfz35_0 := blk_frozen BK145.out 0; have hfz35_1 := blk_frozen BK145.out 1; have hfz35_2 := blk_frozen BK145.out 2; have hfz35_3 := blk_frozen BK145.out 3; have hfz35_4 := blk_frozen BK145.out 4; have hcz36_0 : w31.cell? ⟨gb146, 0, none⟩ = some (.int .u8 x147000_1) := (blk_cell BK146.out 0).trans rfl; have hcz36_1 : w31.cell? ⟨gb146, 1, none⟩ = some (.int .i64 x147001_1) := (blk_cell BK146.out 1).trans rfl; have hcz36_2 : w31.cell? ⟨gb146, 2, none⟩ = some (.int .i64 x147002_1) := (blk_cell BK146.out 2).trans rfl; have hcz36_3 : w31.cell? ⟨gb146, 3, none⟩ = some (.int .u8 x147003_1) := (blk_cell BK146.out 3).trans rfl; have hcz36_4 : w31.cell? ⟨gb146, 4, none⟩ = some (.int .i64 x147004_1) := (blk_cell BK146.out 4).trans rfl; have hcz36_5 : w31.cell? ⟨gb146, 5, none⟩ = some (.int .i64 x147005_1) := (blk_cell BK146.out 5).trans rfl; have hcz36_6 : w31.cell? ⟨gb146, 6, none⟩ = some (.int .i64 x147006_1) := (blk_cell BK146.out 6).trans rfl; have hfz36_0 := blk_frozen BK146.out 0; have hfz36_1 := blk_frozen BK146.out 1; have hfz36_2 := blk_frozen BK146.out 2; have hfz36_3 := blk_frozen BK146.out 3; have hfz36_4 := blk_frozen BK146.out 4; have hfz36_5 := blk_frozen BK146.out 5; have hfz36_6 := blk_frozen BK146.out 6))
          refine bodyPost_ret (results_ct rfl _ _ gb146 56 #[.int .u8 a0_0, .int .i64 a0_1, .int .i64 a0_2, .int .u8 a0_3, .int .i64 a0_4, .int .i64 t151, .int .i64 t152] (0, 0) _ rfl (by (with_reducible skip); refine blk_put (cs := #[.int .u8 a0_0, .int .i64 a0_1, .int .i64 a0_2, .int .u8 a0_3, .int .i64 a0_4, .int .i64 t151, .int .i64 x147006_1]) ?_ 6 _ rfl; (with_reducible skip); refine blk_put (cs := #[.int .u8 a0_0, .int .i64 a0_1, .int .i64 a0_2, .int .u8 a0_3, .int .i64 a0_4, .int .i64 x147005_1, .int .i64 x147006_1]) ?_ 5 _ rfl; (with_reducible skip); refine blk_put (cs := #[.int .u8 a0_0, .int .i64 a0_1, .int .i64 a0_2, .int .u8 a0_3, .int .i64 x147004_1, .int .i64 x147005_1, .int .i64 x147006_1]) ?_ 4 _ rfl; (with_reducible skip); refine blk_put (cs := #[.int .u8 a0_0, .int .i64 a0_1, .int .i64 a0_2, .int .u8 x147003_1, .int .i64 x147004_1, .int .i64 x147005_1, .int .i64 x147006_1]) ?_ 3 _ rfl; (with_reducible skip); refine blk_put (cs := #[.int .u8 a0_0, .int .i64 a0_1, .int .i64 x147002_1, .int .u8 x147003_1, .int .i64 x147004_1, .int .i64 x147005_1, .int .i64 x147006_1]) ?_ 2 _ rfl; (with_reducible skip); refine blk_put (cs := #[.int .u8 a0_0, .int .i64 x147001_1, .int .i64 x147002_1, .int .u8 x147003_1, .int .i64 x147004_1, .int .i64 x147005_1, .int .i64 x147006_1]) ?_ 1 _ rfl; (with_reducible skip); refine blk_put (cs := #[.int .u8 x147000_1, .int .i64 x147001_1, .int .i64 x147002_1, .int .u8 x147003_1, .int .i64 x147004_1, .int .i64 x147005_1, .int .i64 x147006_1]) ?_ 0 _ rfl; (with_reducible skip); refine blk_far ?_ NB146_156.out _; (with_reducible skip); refine blk_far ?_ NB146_156.out _; (with_reducible skip); refine blk_far ?_ NB146_156.out _; (with_reducible skip); refine blk_far ?_ NB146_156.out _; (with_reducible skip); exact BK146.out) Try.underlying56 rfl (by kernel_rfl)) rfl ?_
          exact ⟨by (rfl), by repeat (with_reducible first | exact HB.out | refine below_set ?_ GE146.out | refine below_set ?_ GE156.out)⟩
  · rw [if_neg c4] at H
    have c4b0 : (t147 == 0) = false := beq_eq_false_iff_ne.mpr c4
    have c4b1 : (t147 != 0) = true := bne_iff_ne.mpr c4
    simp only [Option.some.injEq, Prod.mk.injEq] at H
    obtain ⟨rfl, rfl, rfl, rfl, rfl, rfl, rfl, rfl⟩ := H
    go_enter Try.func18, Try.ntmps18
    go_wp2_with (first | ((with_reducible refine gate_dst (N := 2) rfl ?_); refine box_event ?hg (N := 2) ?hd (cs := #[.int .u8 a0_0, .int .i64 a0_1, .int .i64 a0_2, .int .u8 a0_3, .int .i64 a0_4]) (t := 23) ?hr ?_; (case hd => rfl); (case hg => rfl); (case hr => (go_simp; done)); intro gb145 hg w37 hbox hb; have BK145 := Aside0.mk hbox; have GW145 := Aside0.mk ((by rw [hg]; exact (below_size HB.out) : w.heap.size ≤ gb145)); have GE145 := Aside0.mk ((by rw [hg]; exact (below_size HB.out) : w.heap.size ≤ gb145)); replace HB := Aside0.mk (below_step HB.out hb); clear hb hbox hg) | ((with_reducible refine gate_dst (N := 4) rfl ?_); refine box_event ?hg (N := 4) ?hd (cs := #[.int .u8 0, .int .i64 0, .int .i64 0, .int .u8 0, .int .i64 0, .int .i64 0, .int .i64 0]) (t := 56) ?hr ?_; (case hd => rfl); (case hg => rfl); (case hr => (go_simp; done)); intro gb146 hg w38 hbox hb; have BK146 := Aside0.mk hbox; have GW146 := Aside0.mk ((by rw [hg]; exact (below_size HB.out) : w.heap.size ≤ gb146)); have GE146 := Aside0.mk ((by rw [hg]; exact (below_size HB.out) : w.heap.size ≤ gb146)); have NB145_146 := Aside0.mk ((by rw [hg]; exact Nat.ne_of_lt (blk_lt BK145.out) : gb145 ≠ gb146)); have NB146_145 := Aside0.mk ((by rw [hg]; exact Nat.ne_of_gt (blk_lt BK145.out) : gb146 ≠ gb145)); replace BK145 := Aside0.mk (blk_below BK145.out hb); replace HB := Aside0.mk (below_step HB.out hb); clear hb hbox hg; have hnb39 := NB145_146.out; have hnc39 := NB146_145.out; have hcz40_0 : w38.cell? ⟨gb145, 0, none⟩ = some (.int .u8 a0_0) := (blk_cell BK145.out 0).trans rfl; have hcz40_1 : w38.cell? ⟨gb145, 1, none⟩ = some (.int .i64 a0_1) := (blk_cell BK145.out 1).trans rfl; have hcz40_2 : w38.cell? ⟨gb145, 2, none⟩ = some (.int .i64 a0_2) := (blk_cell BK145.out 2).trans rfl; have hcz40_3 : w38.cell? ⟨gb145, 3, none⟩ = some (.int .u8 a0_3) := (blk_cell BK145.out 3).trans rfl; have hcz40_4 : w38.cell? ⟨gb145, 4, none⟩ = some (.int .i64 a0_4) := (blk_cell BK145.out 4).trans rfl; have hfz40_0 := blk_frozen BK145.out 0; have hfz40_1 := blk_frozen BK145.out 1; have hfz40_2 := blk_frozen BK145.out 2; have hfz40_3 := blk_frozen BK145.out 3; have hfz40_4 := blk_frozen BK145.out 4) | ((with_reducible refine gate_callee (f := 6) rfl ?_); refine goesL_ (some 11) rfl rfl Try.func6 (by kernel_rfl) rfl #[.agg #[.int .u8 a0_0, .int .i64 a0_1, .int .i64 a0_2, .int .u8 a0_3, .int .i64 a0_4]] rfl (by (try simp only [List.map_toArray, List.map_cons, List.map_nil]); (rfl)) ?_; (with_reducible refine (topo_Check.calls k a0_0 a0_1 a0_2 a0_3 a0_4 t147 _ A3.out).mono ?_); rintro e w41 ⟨rfl, hb⟩; refine ⟨_, rfl, ?_⟩; replace BK145 := Aside0.mk (blk_below BK145.out hb); replace BK146 := Aside0.mk (blk_below BK146.out hb); replace HB := Aside0.mk (below_step HB.out hb); (try clear hb); have hcz42_0 : w41.cell? ⟨gb146, 0, none⟩ = some (.int .u8 0) := (blk_cell BK146.out 0).trans rfl; have hcz42_1 : w41.cell? ⟨gb146, 1, none⟩ = some (.int .i64 0) := (blk_cell BK146.out 1).trans rfl; have hcz42_2 : w41.cell? ⟨gb146, 2, none⟩ = some (.int .i64 0) := (blk_cell BK146.out 2).trans rfl; have hcz42_3 : w41.cell? ⟨gb146, 3, none⟩ = some (.int .u8 0) := (blk_cell BK146.out 3).trans rfl; have hcz42_4 : w41.cell? ⟨gb146, 4, none⟩ = some (.int .i64 0) := (blk_cell BK146.out 4).trans rfl; have hcz42_5 : w41.cell? ⟨gb146, 5, none⟩ = some (.int .i64 0) := (blk_cell BK146.out 5).trans rfl; have hcz42_6 : w41.cell? ⟨gb146, 6, none⟩ = some (.int .i64 0) := (blk_cell BK146.out 6).trans rfl; have hfz42_0 := blk_frozen BK146.out 0; have hfz42_1 := blk_frozen BK146.out 1; have hfz42_2 := blk_frozen BK146.out 2; have hfz42_3 := blk_frozen BK146.out 3; have hfz42_4 := blk_frozen BK146.out 4; have hfz42_5 := blk_frozen BK146.out 5; have hfz42_6 := blk_frozen BK146.out 6))
    refine bodyPost_ret (results_ct rfl _ _ gb146 56 #[.int .u8 0, .int .i64 0, .int .i64 0, .int .u8 0, .int .i64 0, .int .i64 0, .int .i64 0] (0, 0) _ rfl (by (with_reducible skip); refine blk_put (cs := #[.int .u8 0, .int .i64 0, .int .i64 0, .int .u8 0, .int .i64 0, .int .i64 0, .int .i64 0]) ?_ 6 _ rfl; (with_reducible skip); refine blk_put (cs := #[.int .u8 0, .int .i64 0, .int .i64 0, .int .u8 0, .int .i64 0, .int .i64 0, .int .i64 0]) ?_ 5 _ rfl; (with_reducible skip); refine blk_put (cs := #[.int .u8 0, .int .i64 0, .int .i64 0, .int .u8 0, .int .i64 0, .int .i64 0, .int .i64 0]) ?_ 4 _ rfl; (with_reducible skip); refine blk_put (cs := #[.int .u8 0, .int .i64 0, .int .i64 0, .int .u8 0, .int .i64 0, .int .i64 0, .int .i64 0]) ?_ 3 _ rfl; (with_reducible skip); refine blk_put (cs := #[.int .u8 0, .int .i64 0, .int .i64 0, .int .u8 0, .int .i64 0, .int .i64 0, .int .i64 0]) ?_ 2 _ rfl; (with_reducible skip); refine blk_put (cs := #[.int .u8 0, .int .i64 0, .int .i64 0, .int .u8 0, .int .i64 0, .int .i64 0, .int .i64 0]) ?_ 1 _ rfl; (with_reducible skip); refine blk_put (cs := #[.int .u8 0, .int .i64 0, .int .i64 0, .int .u8 0, .int .i64 0, .int .i64 0, .int .i64 0]) ?_ 0 _ rfl; (with_reducible skip); exact BK146.out) Try.underlying56 rfl (by kernel_rfl)) rfl ?_
    exact ⟨by (rfl), by repeat (with_reducible first | exact HB.out | refine below_set ?_ GE146.out)⟩


end Go.Proofs.Ytfgoplgdhnjkdaa.Be
