/- The machine's side of Go functions of this seat: for each a Lean function and a proof that the call comes to what it says. Written by a program of this session (wip/xp) for this claim. -/
import Derived.Test.YtfgoplgdhnjkdaaBe0
import Derived.Test.YtfgoplgdhnjkdaaBe2
import Derived.Test.YtfgoplgdhnjkdaaBe3
import Derived.Test.YtfgoplgdhnjkdaaBe5
import Derived.Test.YtfgoplgdhnjkdaaBew
namespace Go.Proofs.Ytfgoplgdhnjkdaa.Be
open Go.RowKit Go.Proofs.YtfgoplgdhnjkdaaW.PrintWords Go.Proofs.YtfgoplgdhnjkdaaW.PrintLast Go.Proofs.YtfgoplgdhnjkdaaW.PrintMore
attribute [local go_sem] max2_int min2_int max_two min_two max_three min_three max_four min_four   -- for this text's walks alone
open Go.Proofs.YtfgoplgdhnjkdaaW.XWords
attribute [local go_sem high] binOp_fEq binOp_fNe binOp_fLt binOp_fLe binOp_fGt binOp_fGe binOp_cEq binOp_cNe unOp_fNeg unOp_cNeg equalIn_f64 equalIn_c128
attribute [local go_sem] run_real run_imag run_complex run_store_f64 run_store_c128 run_store_fn
set_option linter.unusedVariables false
set_option linter.unusedSimpArgs false

/-! ### fold_grid_glued: function 23 -/
def fold_grid_glued.f (a0_0 : Int) (a0_1 : Int) (a0_2 : Int) (a0_3 : Int) (a0_4 : Int) (a0_5 : Int) (a0_6 : Int) : Option (Bool) := if a0_0 = 1 then (some false) else (some (a0_0 != 5))
set_option maxHeartbeats 8000000 in
set_option maxRecDepth 100000 in
theorem fold_grid_glued.calls (a0_0 : Int) (a0_1 : Int) (a0_2 : Int) (a0_3 : Int) (a0_4 : Int) (a0_5 : Int) (a0_6 : Int) (r : Bool) (w : World) (h : fold_grid_glued.f a0_0 a0_1 a0_2 a0_3 a0_4 a0_5 a0_6 = some r) :
    Calls Try.prog 23 #[.agg #[.int .u8 a0_0, .int .i64 a0_1, .int .i64 a0_2, .int .u8 a0_3, .int .i64 a0_4, .int .i64 a0_5, .int .i64 a0_6]] w fun e w' => e = .returned (.bool r) ∧ Below w.heap.size w w' := by
  have hu56 := Try.underlying56
  have HB := Aside0.mk (Below.refl w.heap.size w)
  have H : (if a0_0 = 1 then (some false) else (some (a0_0 != 5))) = some r := h
  clear h
  by_cases c2 : a0_0 = 1
  · rw [if_pos c2] at H
    have c2b0 : (a0_0 == 1) = true := beq_iff_eq.mpr c2
    have c2b1 : (a0_0 != 1) = false := bne_eq_false_iff_eq.mpr c2
    clear c2
    obtain rfl := Option.some.inj H
    go_enter Try.func23, Try.ntmps23
    go_wp2_with ((((with_reducible refine gate_dst (N := 1) rfl ?_); refine box_event ?hg (N := 1) ?hd (cs := #[.int .u8 a0_0, .int .i64 a0_1, .int .i64 a0_2, .int .u8 a0_3, .int .i64 a0_4, .int .i64 a0_5, .int .i64 a0_6]) (t := 56) ?hr ?_; (case hd => rfl); (case hg => rfl); (case hr => (go_simp; done)); intro gb180 hg w3 hbox hb; have BK180 := Aside0.mk hbox; have GW180 := Aside0.mk ((by rw [hg]; exact (below_size HB.out) : w.heap.size ≤ gb180)); have GE180 := Aside0.mk ((by rw [hg]; exact (below_size HB.out) : w.heap.size ≤ gb180)); replace HB := Aside0.mk (below_step HB.out hb); clear hb hbox hg; have hcz4_0 : w3.cell? ⟨gb180, 0, none⟩ = some (.int .u8 a0_0) := (blk_cell BK180.out 0).trans rfl; have hcz4_1 : w3.cell? ⟨gb180, 1, none⟩ = some (.int .i64 a0_1) := (blk_cell BK180.out 1).trans rfl; have hcz4_2 : w3.cell? ⟨gb180, 2, none⟩ = some (.int .i64 a0_2) := (blk_cell BK180.out 2).trans rfl; have hcz4_3 : w3.cell? ⟨gb180, 3, none⟩ = some (.int .u8 a0_3) := (blk_cell BK180.out 3).trans rfl; have hcz4_4 : w3.cell? ⟨gb180, 4, none⟩ = some (.int .i64 a0_4) := (blk_cell BK180.out 4).trans rfl; have hcz4_5 : w3.cell? ⟨gb180, 5, none⟩ = some (.int .i64 a0_5) := (blk_cell BK180.out 5).trans rfl; have hcz4_6 : w3.cell? ⟨gb180, 6, none⟩ = some (.int .i64 a0_6) := (blk_cell BK180.out 6).trans rfl; have hfz4_0 := blk_frozen BK180.out 0; have hfz4_1 := blk_frozen BK180.out 1; have hfz4_2 := blk_frozen BK180.out 2; have hfz4_3 := blk_frozen BK180.out 3; have hfz4_4 := blk_frozen BK180.out 4; have hfz4_5 := blk_frozen BK180.out 5; have hfz4_6 := blk_frozen BK180.out 6)))
    go_ret
    exact ⟨by (rfl), by repeat (with_reducible (exact HB.out))⟩
  · rw [if_neg c2] at H
    have c2b0 : (a0_0 == 1) = false := beq_eq_false_iff_ne.mpr c2
    have c2b1 : (a0_0 != 1) = true := bne_iff_ne.mpr c2
    obtain rfl := Option.some.inj H
    go_enter Try.func23, Try.ntmps23
    go_wp2_with ((((with_reducible refine gate_dst (N := 1) rfl ?_); refine box_event ?hg (N := 1) ?hd (cs := #[.int .u8 a0_0, .int .i64 a0_1, .int .i64 a0_2, .int .u8 a0_3, .int .i64 a0_4, .int .i64 a0_5, .int .i64 a0_6]) (t := 56) ?hr ?_; (case hd => rfl); (case hg => rfl); (case hr => (go_simp; done)); intro gb180 hg w5 hbox hb; have BK180 := Aside0.mk hbox; have GW180 := Aside0.mk ((by rw [hg]; exact (below_size HB.out) : w.heap.size ≤ gb180)); have GE180 := Aside0.mk ((by rw [hg]; exact (below_size HB.out) : w.heap.size ≤ gb180)); replace HB := Aside0.mk (below_step HB.out hb); clear hb hbox hg; have hcz6_0 : w5.cell? ⟨gb180, 0, none⟩ = some (.int .u8 a0_0) := (blk_cell BK180.out 0).trans rfl; have hcz6_1 : w5.cell? ⟨gb180, 1, none⟩ = some (.int .i64 a0_1) := (blk_cell BK180.out 1).trans rfl; have hcz6_2 : w5.cell? ⟨gb180, 2, none⟩ = some (.int .i64 a0_2) := (blk_cell BK180.out 2).trans rfl; have hcz6_3 : w5.cell? ⟨gb180, 3, none⟩ = some (.int .u8 a0_3) := (blk_cell BK180.out 3).trans rfl; have hcz6_4 : w5.cell? ⟨gb180, 4, none⟩ = some (.int .i64 a0_4) := (blk_cell BK180.out 4).trans rfl; have hcz6_5 : w5.cell? ⟨gb180, 5, none⟩ = some (.int .i64 a0_5) := (blk_cell BK180.out 5).trans rfl; have hcz6_6 : w5.cell? ⟨gb180, 6, none⟩ = some (.int .i64 a0_6) := (blk_cell BK180.out 6).trans rfl; have hfz6_0 := blk_frozen BK180.out 0; have hfz6_1 := blk_frozen BK180.out 1; have hfz6_2 := blk_frozen BK180.out 2; have hfz6_3 := blk_frozen BK180.out 3; have hfz6_4 := blk_frozen BK180.out 4; have hfz6_5 := blk_frozen BK180.out 5; have hfz6_6 := blk_frozen BK180.out 6)))
    go_ret
    exact ⟨by (rfl), by repeat (with_reducible (exact HB.out))⟩

/-! ### fold_grid_cell: function 22 -/
def fold_grid_cell.j0 : Nat → Int → Int → Bool → Int → Int → Int → Int → Int → Int → Int → Option (Int × Int × Int)
  | 0, _, _, _, _, _, _, _, _, _, _ => none
  | k + 1, x6, x7, x34, x182000, x182001, x182002, x182003, x182004, x182005, x182006 => if x34 = true then (some (0, 0, 60)) else ((fold_way.f x182000).bind fun t189 => ((fold_dyn.f k t189 x182000 x182001 x182002 x182003 x182004 x182005 x182006 x6 x7).bind fun bt190 => ((fold_grid_place.f x182000 x182001 x182002 x182003 x182004 x182005 x182006 bt190.1 bt190.2.1).bind fun bt193 => (some (bt193.1, bt193.2, 0)))))
def fold_grid_cell.f (k : Nat) (a0_0 : Int) (a0_1 : Int) (a0_2 : Int) (a0_3 : Int) (a0_4 : Int) (a0_5 : Int) (a0_6 : Int) (a1_0 : Int) (a1_1 : Int) : Option (Int × Int × Int) := (fold_grid_home.f a0_0 a0_1 a0_2 a0_3 a0_4 a0_5 a0_6 a1_0 a1_1).bind fun bt184 => ((fold_grid_glued.f a0_0 a0_1 a0_2 a0_3 a0_4 a0_5 a0_6).bind fun t186 => (if t186 = true then (fold_grid_cell.j0 k bt184.1 bt184.2 false a0_0 a0_1 a0_2 a0_3 a0_4 a0_5 a0_6) else ((fold_on.f bt184.1 a0_1).bind fun t187 => (if t187 = true then ((fold_on.f bt184.2 a0_2).bind fun t188 => (fold_grid_cell.j0 k bt184.1 bt184.2 (!t188) a0_0 a0_1 a0_2 a0_3 a0_4 a0_5 a0_6)) else (fold_grid_cell.j0 k bt184.1 bt184.2 (!false) a0_0 a0_1 a0_2 a0_3 a0_4 a0_5 a0_6)))))
theorem fold_grid_cell.mono_l : ∀ k, (∀ y0 y1 y2 y3 y4 y5 y6 y7 y8 y9, LeO (fold_grid_cell.j0 k y0 y1 y2 y3 y4 y5 y6 y7 y8 y9) (fold_grid_cell.j0 (k + 1) y0 y1 y2 y3 y4 y5 y6 y7 y8 y9))
  | 0 => fun _ _ _ _ _ _ _ _ _ _ r h => by simp [fold_grid_cell.j0] at h
  | k + 1 => by
    have ih0 := fold_grid_cell.mono_l k
    · intro y0 y1 y2 y3 y4 y5 y6 y7 y8 y9
      unfold fold_grid_cell.j0
      repeat' first
      | (with_reducible exact fold_dyn.mono _ _ _ _ _ _ _ _ _ _ _)
      | (with_reducible exact LeO.refl _)
      | (with_reducible refine LeO.ite ?_ ?_)
      | (with_reducible refine LeO.bind ?_ (fun _ => ?_))
theorem fold_grid_cell.mono : ∀ a0 a1 a2 a3 a4 a5 a6 a7 a8 k, LeO (fold_grid_cell.f k a0 a1 a2 a3 a4 a5 a6 a7 a8) (fold_grid_cell.f (k + 1) a0 a1 a2 a3 a4 a5 a6 a7 a8) := by
  intro a0 a1 a2 a3 a4 a5 a6 a7 a8 k
  have ih0 := fold_grid_cell.mono_l k
  unfold fold_grid_cell.f
  repeat' first
      | (with_reducible exact ih0 _ _ _ _ _ _ _ _ _ _)
      | (with_reducible exact LeO.refl _)
      | (with_reducible refine LeO.ite ?_ ?_)
      | (with_reducible refine LeO.bind ?_ (fun _ => ?_))
def fold_grid_cell.T4 : Bool × List (List Nat × List Nat) := (true, [([], []), ([0], [0]), ([1], [1]), ([2], [2]), ([], []), ([], []), ([], []), ([3, 4, 5, 6, 3], [3, 4, 5, 6]), ([7], [7]), ([8], [8]), ([8], [8]), ([8], [8]), ([9, 7, 0, 1, 2, 3, 4, 5, 6, 7, 8, 9], [9]), ([10, 12, 0, 1, 2, 3, 4, 5, 6, 7, 8, 9, 10, 12], [10]), ([11, 13, 0, 1, 2, 3, 4, 5, 6, 7, 8, 9, 10, 11, 12, 13], [11])])
def fold_grid_cell.B4 : List Nat := [0, 1, 3, 7, 0, 0, 0, 127, 255, 511, 511, 511, 1023, 6143, 16383]
theorem fold_grid_cell.tab4 : rtab .any (opsOf Try.f22 4) = fold_grid_cell.T4 := by kernel_rfl
theorem fold_grid_cell.bits4 : waitsOk fold_grid_cell.T4.2 fold_grid_cell.B4 = true := by kernel_rfl
set_option maxHeartbeats 8000000 in
set_option maxRecDepth 100000 in
theorem fold_grid_cell.calls (k : Nat) (a0_0 : Int) (a0_1 : Int) (a0_2 : Int) (a0_3 : Int) (a0_4 : Int) (a0_5 : Int) (a0_6 : Int) (a1_0 : Int) (a1_1 : Int) (r1 : Int) (r2 : Int) (r3 : Int) (w : World) (h : fold_grid_cell.f k a0_0 a0_1 a0_2 a0_3 a0_4 a0_5 a0_6 a1_0 a1_1 = some (r1, r2, r3)) :
    Calls Try.prog 22 #[.agg #[.int .u8 a0_0, .int .i64 a0_1, .int .i64 a0_2, .int .u8 a0_3, .int .i64 a0_4, .int .i64 a0_5, .int .i64 a0_6], .agg #[.int .i64 a1_0, .int .i64 a1_1]] w fun e w' => e = .returned (.tuple #[.agg #[.int .i64 r1, .int .i64 r2], .int .i64 r3]) ∧ Below w.heap.size w w' := by
  have hu56 := Try.underlying56
  have hu33 := Try.underlying33
  have HB := Aside0.mk (Below.refl w.heap.size w)
  have H : ((fold_grid_home.f a0_0 a0_1 a0_2 a0_3 a0_4 a0_5 a0_6 a1_0 a1_1).bind fun bt184 => ((fold_grid_glued.f a0_0 a0_1 a0_2 a0_3 a0_4 a0_5 a0_6).bind fun t186 => (if t186 = true then (fold_grid_cell.j0 k bt184.1 bt184.2 false a0_0 a0_1 a0_2 a0_3 a0_4 a0_5 a0_6) else ((fold_on.f bt184.1 a0_1).bind fun t187 => (if t187 = true then ((fold_on.f bt184.2 a0_2).bind fun t188 => (fold_grid_cell.j0 k bt184.1 bt184.2 (!t188) a0_0 a0_1 a0_2 a0_3 a0_4 a0_5 a0_6)) else (fold_grid_cell.j0 k bt184.1 bt184.2 (!false) a0_0 a0_1 a0_2 a0_3 a0_4 a0_5 a0_6)))))) = some (r1, r2, r3) := h
  clear h
  replace H := Option.bind_eq_some_iff.mp H
  obtain ⟨⟨t184, t185⟩, A30, H⟩ := H
  replace H : ((fold_grid_glued.f a0_0 a0_1 a0_2 a0_3 a0_4 a0_5 a0_6).bind fun t186 => (if t186 = true then (fold_grid_cell.j0 k t184 t185 false a0_0 a0_1 a0_2 a0_3 a0_4 a0_5 a0_6) else ((fold_on.f t184 a0_1).bind fun t187 => (if t187 = true then ((fold_on.f t185 a0_2).bind fun t188 => (fold_grid_cell.j0 k t184 t185 (!t188) a0_0 a0_1 a0_2 a0_3 a0_4 a0_5 a0_6)) else (fold_grid_cell.j0 k t184 t185 (!false) a0_0 a0_1 a0_2 a0_3 a0_4 a0_5 a0_6))))) = some (r1, r2, r3) := H
  have A3 := Aside0.mk A30
  clear A30
  have HC4 := Aside0.mk H
  clear H
  go_enter Try.func22, Try.ntmps22
  go_upto_region 2 with (first | ((with_reducible refine gate_dst (N := 2) rfl ?_); refine box_event ?hg (N := 2) ?hd (cs := #[.int .u8 a0_0, .int .i64 a0_1, .int .i64 a0_2, .int .u8 a0_3, .int .i64 a0_4, .int .i64 a0_5, .int .i64 a0_6]) (t := 56) ?hr ?_; (case hd => rfl); (case hg => rfl); (case hr => (go_simp; done)); intro gb181 hg w5 hbox hb; have BK181 := Aside0.mk hbox; have GW181 := Aside0.mk ((by rw [hg]; exact (below_size HB.out) : w.heap.size ≤ gb181)); have GE181 := Aside0.mk ((by rw [hg]; exact (below_size HB.out) : w.heap.size ≤ gb181)); replace HB := Aside0.mk (below_step HB.out hb); clear hb hbox hg) | ((with_reducible refine gate_dst (N := 3) rfl ?_); refine box_event ?hg (N := 3) ?hd (cs := #[.int .i64 a1_0, .int .i64 a1_1]) (t := 33) ?hr ?_; (case hd => rfl); (case hg => rfl); (case hr => (go_simp; done)); intro gb182 hg w6 hbox hb; have BK182 := Aside0.mk hbox; have GW182 := Aside0.mk ((by rw [hg]; exact (below_size HB.out) : w.heap.size ≤ gb182)); have GE182 := Aside0.mk ((by rw [hg]; exact (below_size HB.out) : w.heap.size ≤ gb182)); have NB181_182 := Aside0.mk ((by rw [hg]; exact Nat.ne_of_lt (blk_lt BK181.out) : gb181 ≠ gb182)); have NB182_181 := Aside0.mk ((by rw [hg]; exact Nat.ne_of_gt (blk_lt BK181.out) : gb182 ≠ gb181)); replace BK181 := Aside0.mk (blk_below BK181.out hb); replace HB := Aside0.mk (below_step HB.out hb); clear hb hbox hg) | ((with_reducible refine gate_dst (N := 4) rfl ?_); refine box_event ?hg (N := 4) ?hd (cs := #[.int .i64 0, .int .i64 0]) (t := 33) ?hr ?_; (case hd => rfl); (case hg => rfl); (case hr => (go_simp; done)); intro gb183 hg w7 hbox hb; have BK183 := Aside0.mk hbox; have GW183 := Aside0.mk ((by rw [hg]; exact (below_size HB.out) : w.heap.size ≤ gb183)); have GE183 := Aside0.mk ((by rw [hg]; exact (below_size HB.out) : w.heap.size ≤ gb183)); have NB181_183 := Aside0.mk ((by rw [hg]; exact Nat.ne_of_lt (blk_lt BK181.out) : gb181 ≠ gb183)); have NB183_181 := Aside0.mk ((by rw [hg]; exact Nat.ne_of_gt (blk_lt BK181.out) : gb183 ≠ gb181)); have NB182_183 := Aside0.mk ((by rw [hg]; exact Nat.ne_of_lt (blk_lt BK182.out) : gb182 ≠ gb183)); have NB183_182 := Aside0.mk ((by rw [hg]; exact Nat.ne_of_gt (blk_lt BK182.out) : gb183 ≠ gb182)); replace BK181 := Aside0.mk (blk_below BK181.out hb); replace BK182 := Aside0.mk (blk_below BK182.out hb); replace HB := Aside0.mk (below_step HB.out hb); clear hb hbox hg; have hnb8 := NB181_182.out; have hnc8 := NB182_181.out; have hnb9 := NB181_183.out; have hnc9 := NB183_181.out; have hcz10_0 : w7.cell? ⟨gb181, 0, none⟩ = some (.int .u8 a0_0) := (blk_cell BK181.out 0).trans rfl; have hcz10_1 : w7.cell? ⟨gb181, 1, none⟩ = some (.int .i64 a0_1) := (blk_cell BK181.out 1).trans rfl; have hcz10_2 : w7.cell? ⟨gb181, 2, none⟩ = some (.int .i64 a0_2) := (blk_cell BK181.out 2).trans rfl; have hcz10_3 : w7.cell? ⟨gb181, 3, none⟩ = some (.int .u8 a0_3) := (blk_cell BK181.out 3).trans rfl; have hcz10_4 : w7.cell? ⟨gb181, 4, none⟩ = some (.int .i64 a0_4) := (blk_cell BK181.out 4).trans rfl; have hcz10_5 : w7.cell? ⟨gb181, 5, none⟩ = some (.int .i64 a0_5) := (blk_cell BK181.out 5).trans rfl; have hcz10_6 : w7.cell? ⟨gb181, 6, none⟩ = some (.int .i64 a0_6) := (blk_cell BK181.out 6).trans rfl; have hfz10_0 := blk_frozen BK181.out 0; have hfz10_1 := blk_frozen BK181.out 1; have hfz10_2 := blk_frozen BK181.out 2; have hfz10_3 := blk_frozen BK181.out 3; have hfz10_4 := blk_frozen BK181.out 4; have hfz10_5 := blk_frozen BK181.out 5; have hfz10_6 := blk_frozen BK181.out 6; have hnb11 := NB182_183.out; have hnc11 := NB183_182.out; have hcz12_0 : w7.cell? ⟨gb182, 0, none⟩ = some (.int .i64 a1_0) := (blk_cell BK182.out 0).trans rfl; have hcz12_1 : w7.cell? ⟨gb182, 1, none⟩ = some (.int .i64 a1_1) := (blk_cell BK182.out 1).trans rfl; have hfz12_0 := blk_frozen BK182.out 0; have hfz12_1 := blk_frozen BK182.out 1) | ((with_reducible refine gate_callee (f := 19) rfl ?_); refine goesL_ (some 14) rfl rfl Try.func19 (by kernel_rfl) rfl #[.agg #[.int .u8 a0_0, .int .i64 a0_1, .int .i64 a0_2, .int .u8 a0_3, .int .i64 a0_4, .int .i64 a0_5, .int .i64 a0_6], .agg #[.int .i64 a1_0, .int .i64 a1_1]] rfl (by (try simp only [List.map_toArray, List.map_cons, List.map_nil]); (rfl)) ?_; (with_reducible refine (fold_grid_home.calls a0_0 a0_1 a0_2 a0_3 a0_4 a0_5 a0_6 a1_0 a1_1 t184 t185 _ A3.out).mono ?_); rintro e w13 ⟨rfl, hb⟩; refine ⟨_, rfl, ?_⟩; replace BK181 := Aside0.mk (blk_below BK181.out hb); replace BK182 := Aside0.mk (blk_below BK182.out hb); replace BK183 := Aside0.mk (blk_below BK183.out hb); replace HB := Aside0.mk (below_step HB.out hb); (try clear hb)))
  go_cut [34] (fun v34 wc => ∃ (kq : Nat) (x34_3 : Bool), v34 = .bool x34_3 ∧ Aside0 (fold_grid_cell.j0 kq t184 t185 x34_3 a0_0 a0_1 a0_2 a0_3 a0_4 a0_5 a0_6 = some (r1, r2, r3)) ∧ Aside0 (kq ≤ k) ∧ Aside0 (wc.heap[gb181]? = some (.cells #[.int .u8 a0_0, .int .i64 a0_1, .int .i64 a0_2, .int .u8 a0_3, .int .i64 a0_4, .int .i64 a0_5, .int .i64 a0_6] 56 (0, 0))) ∧ Aside0 (wc.heap[gb182]? = some (.cells #[.int .i64 a1_0, .int .i64 a1_1] 33 (0, 0))) ∧ Aside0 (wc.heap[gb183]? = some (.cells #[.int .i64 0, .int .i64 0] 33 (0, 0))) ∧ Aside0 (Below w.heap.size w wc))
  case first =>
    have H := HC4.out
    clear HC4
    replace H := Option.bind_eq_some_iff.mp H
    obtain ⟨t186, A140, H⟩ := H
    replace H : (if t186 = true then (fold_grid_cell.j0 k t184 t185 false a0_0 a0_1 a0_2 a0_3 a0_4 a0_5 a0_6) else ((fold_on.f t184 a0_1).bind fun t187 => (if t187 = true then ((fold_on.f t185 a0_2).bind fun t188 => (fold_grid_cell.j0 k t184 t185 (!t188) a0_0 a0_1 a0_2 a0_3 a0_4 a0_5 a0_6)) else (fold_grid_cell.j0 k t184 t185 (!false) a0_0 a0_1 a0_2 a0_3 a0_4 a0_5 a0_6)))) = some (r1, r2, r3) := H
    have A14 := Aside0.mk A140
    clear A140
    by_cases c15 : t186 = true
    · subst c15
      have H1 : (fold_grid_cell.j0 k t184 t185 false a0_0 a0_1 a0_2 a0_3 a0_4 a0_5 a0_6) = some (r1, r2, r3) := by rw [if_pos rfl] at H; exact H
      clear H
      have H := H1
      clear H1
      have H' := Aside0.mk H
      clear H
      have hnb16 := NB181_182.out
      have hnc16 := NB182_181.out
      have hnb17 := NB181_183.out
      have hnc17 := NB183_181.out
      have hcz18_0 : w13.cell? ⟨gb181, 0, none⟩ = some (.int .u8 a0_0) := (blk_cell BK181.out 0).trans rfl
      have hcz18_1 : w13.cell? ⟨gb181, 1, none⟩ = some (.int .i64 a0_1) := (blk_cell BK181.out 1).trans rfl
      have hcz18_2 : w13.cell? ⟨gb181, 2, none⟩ = some (.int .i64 a0_2) := (blk_cell BK181.out 2).trans rfl
      have hcz18_3 : w13.cell? ⟨gb181, 3, none⟩ = some (.int .u8 a0_3) := (blk_cell BK181.out 3).trans rfl
      have hcz18_4 : w13.cell? ⟨gb181, 4, none⟩ = some (.int .i64 a0_4) := (blk_cell BK181.out 4).trans rfl
      have hcz18_5 : w13.cell? ⟨gb181, 5, none⟩ = some (.int .i64 a0_5) := (blk_cell BK181.out 5).trans rfl
      have hcz18_6 : w13.cell? ⟨gb181, 6, none⟩ = some (.int .i64 a0_6) := (blk_cell BK181.out 6).trans rfl
      have hfz18_0 := blk_frozen BK181.out 0
      have hfz18_1 := blk_frozen BK181.out 1
      have hfz18_2 := blk_frozen BK181.out 2
      have hfz18_3 := blk_frozen BK181.out 3
      have hfz18_4 := blk_frozen BK181.out 4
      have hfz18_5 := blk_frozen BK181.out 5
      have hfz18_6 := blk_frozen BK181.out 6
      go_wp2_with ((((with_reducible refine gate_callee (f := 23) rfl ?_); refine goesL_ (some 18) rfl rfl Try.func23 (by kernel_rfl) rfl #[.agg #[.int .u8 a0_0, .int .i64 a0_1, .int .i64 a0_2, .int .u8 a0_3, .int .i64 a0_4, .int .i64 a0_5, .int .i64 a0_6]] rfl (by (try simp only [List.map_toArray, List.map_cons, List.map_nil]); (rfl)) ?_; (with_reducible refine (fold_grid_glued.calls a0_0 a0_1 a0_2 a0_3 a0_4 a0_5 a0_6 true _ A14.out).mono ?_); rintro e w19 ⟨rfl, hb⟩; refine ⟨_, rfl, ?_⟩; replace BK181 := Aside0.mk (blk_below BK181.out hb); replace BK182 := Aside0.mk (blk_below BK182.out hb); replace BK183 := Aside0.mk (blk_below BK183.out hb); replace HB := Aside0.mk (below_step HB.out hb); (try clear hb))))
      go_meet
      case rel => exact ⟨_, (false), (by (rfl)), H', ⟨by (omega)⟩, ⟨by (with_reducible skip); exact BK181.out⟩, ⟨by (with_reducible skip); exact BK182.out⟩, ⟨by (with_reducible skip); exact BK183.out⟩, ⟨by repeat (with_reducible (exact HB.out))⟩⟩
    · replace c15 := Bool.eq_false_iff.mpr c15
      subst c15
      have H1 : ((fold_on.f t184 a0_1).bind fun t187 => (if t187 = true then ((fold_on.f t185 a0_2).bind fun t188 => (fold_grid_cell.j0 k t184 t185 (!t188) a0_0 a0_1 a0_2 a0_3 a0_4 a0_5 a0_6)) else (fold_grid_cell.j0 k t184 t185 (!false) a0_0 a0_1 a0_2 a0_3 a0_4 a0_5 a0_6))) = some (r1, r2, r3) := by rw [if_neg (show ¬ (false = true) by decide)] at H; exact H
      clear H
      have H := H1
      clear H1
      replace H := Option.bind_eq_some_iff.mp H
      obtain ⟨t187, A200, H⟩ := H
      replace H : (if t187 = true then ((fold_on.f t185 a0_2).bind fun t188 => (fold_grid_cell.j0 k t184 t185 (!t188) a0_0 a0_1 a0_2 a0_3 a0_4 a0_5 a0_6)) else (fold_grid_cell.j0 k t184 t185 (!false) a0_0 a0_1 a0_2 a0_3 a0_4 a0_5 a0_6)) = some (r1, r2, r3) := H
      have A20 := Aside0.mk A200
      clear A200
      by_cases c21 : t187 = true
      · subst c21
        have H1 : ((fold_on.f t185 a0_2).bind fun t188 => (fold_grid_cell.j0 k t184 t185 (!t188) a0_0 a0_1 a0_2 a0_3 a0_4 a0_5 a0_6)) = some (r1, r2, r3) := by rw [if_pos rfl] at H; exact H
        clear H
        have H := H1
        clear H1
        replace H := Option.bind_eq_some_iff.mp H
        obtain ⟨t188, A220, H⟩ := H
        replace H : (fold_grid_cell.j0 k t184 t185 (!t188) a0_0 a0_1 a0_2 a0_3 a0_4 a0_5 a0_6) = some (r1, r2, r3) := H
        have A22 := Aside0.mk A220
        clear A220
        have H' := Aside0.mk H
        clear H
        have hnb23 := NB181_182.out
        have hnc23 := NB182_181.out
        have hnb24 := NB181_183.out
        have hnc24 := NB183_181.out
        have hcz25_0 : w13.cell? ⟨gb181, 0, none⟩ = some (.int .u8 a0_0) := (blk_cell BK181.out 0).trans rfl
        have hcz25_1 : w13.cell? ⟨gb181, 1, none⟩ = some (.int .i64 a0_1) := (blk_cell BK181.out 1).trans rfl
        have hcz25_2 : w13.cell? ⟨gb181, 2, none⟩ = some (.int .i64 a0_2) := (blk_cell BK181.out 2).trans rfl
        have hcz25_3 : w13.cell? ⟨gb181, 3, none⟩ = some (.int .u8 a0_3) := (blk_cell BK181.out 3).trans rfl
        have hcz25_4 : w13.cell? ⟨gb181, 4, none⟩ = some (.int .i64 a0_4) := (blk_cell BK181.out 4).trans rfl
        have hcz25_5 : w13.cell? ⟨gb181, 5, none⟩ = some (.int .i64 a0_5) := (blk_cell BK181.out 5).trans rfl
        have hcz25_6 : w13.cell? ⟨gb181, 6, none⟩ = some (.int .i64 a0_6) := (blk_cell BK181.out 6).trans rfl
        have hfz25_0 := blk_frozen BK181.out 0
        have hfz25_1 := blk_frozen BK181.out 1
        have hfz25_2 := blk_frozen BK181.out 2
        have hfz25_3 := blk_frozen BK181.out 3
        have hfz25_4 := blk_frozen BK181.out 4
        have hfz25_5 := blk_frozen BK181.out 5
        have hfz25_6 := blk_frozen BK181.out 6
        go_wp2_with (first | ((with_reducible refine gate_callee (f := 23) rfl ?_); refine goesL_ (some 18) rfl rfl Try.func23 (by kernel_rfl) rfl #[.agg #[.int .u8 a0_0, .int .i64 a0_1, .int .i64 a0_2, .int .u8 a0_3, .int .i64 a0_4, .int .i64 a0_5, .int .i64 a0_6]] rfl (by (try simp only [List.map_toArray, List.map_cons, List.map_nil]); (rfl)) ?_; (with_reducible refine (fold_grid_glued.calls a0_0 a0_1 a0_2 a0_3 a0_4 a0_5 a0_6 false _ A14.out).mono ?_); rintro e w26 ⟨rfl, hb⟩; refine ⟨_, rfl, ?_⟩; replace BK181 := Aside0.mk (blk_below BK181.out hb); replace BK182 := Aside0.mk (blk_below BK182.out hb); replace BK183 := Aside0.mk (blk_below BK183.out hb); replace HB := Aside0.mk (below_step HB.out hb); (try clear hb); have hcz27_0 : w26.cell? ⟨gb181, 0, none⟩ = some (.int .u8 a0_0) := (blk_cell BK181.out 0).trans rfl; have hcz27_1 : w26.cell? ⟨gb181, 1, none⟩ = some (.int .i64 a0_1) := (blk_cell BK181.out 1).trans rfl; have hcz27_2 : w26.cell? ⟨gb181, 2, none⟩ = some (.int .i64 a0_2) := (blk_cell BK181.out 2).trans rfl; have hcz27_3 : w26.cell? ⟨gb181, 3, none⟩ = some (.int .u8 a0_3) := (blk_cell BK181.out 3).trans rfl; have hcz27_4 : w26.cell? ⟨gb181, 4, none⟩ = some (.int .i64 a0_4) := (blk_cell BK181.out 4).trans rfl; have hcz27_5 : w26.cell? ⟨gb181, 5, none⟩ = some (.int .i64 a0_5) := (blk_cell BK181.out 5).trans rfl; have hcz27_6 : w26.cell? ⟨gb181, 6, none⟩ = some (.int .i64 a0_6) := (blk_cell BK181.out 6).trans rfl; have hfz27_0 := blk_frozen BK181.out 0; have hfz27_1 := blk_frozen BK181.out 1; have hfz27_2 := blk_frozen BK181.out 2; have hfz27_3 := blk_frozen BK181.out 3; have hfz27_4 := blk_frozen BK181.out 4; have hfz27_5 := blk_frozen BK181.out 5; have hfz27_6 := blk_frozen BK181.out 6) | (go_at_call 39; (with_reducible refine (fold_on.calls t184 a0_1 true _ A20.out).mono ?_); rintro e w' ⟨rfl, ⟨nd, rfl⟩⟩) | (go_at_call 39; (with_reducible refine (fold_on.calls t185 a0_2 t188 _ A22.out).mono ?_); rintro e w' ⟨rfl, ⟨nd, rfl⟩⟩))
        go_meet
        case rel => exact ⟨_, (!t188), (by (rfl)), H', ⟨by (omega)⟩, ⟨by (with_reducible repeat (refine blk_drewN ?_ _)); exact BK181.out⟩, ⟨by (with_reducible repeat (refine blk_drewN ?_ _)); exact BK182.out⟩, ⟨by (with_reducible repeat (refine blk_drewN ?_ _)); exact BK183.out⟩, ⟨by repeat (with_reducible first | exact HB.out | apply pw_below_drewN)⟩⟩
      · replace c21 := Bool.eq_false_iff.mpr c21
        subst c21
        have H1 : (fold_grid_cell.j0 k t184 t185 (!false) a0_0 a0_1 a0_2 a0_3 a0_4 a0_5 a0_6) = some (r1, r2, r3) := by rw [if_neg (show ¬ (false = true) by decide)] at H; exact H
        clear H
        have H := H1
        clear H1
        have H' := Aside0.mk H
        clear H
        have hnb28 := NB181_182.out
        have hnc28 := NB182_181.out
        have hnb29 := NB181_183.out
        have hnc29 := NB183_181.out
        have hcz30_0 : w13.cell? ⟨gb181, 0, none⟩ = some (.int .u8 a0_0) := (blk_cell BK181.out 0).trans rfl
        have hcz30_1 : w13.cell? ⟨gb181, 1, none⟩ = some (.int .i64 a0_1) := (blk_cell BK181.out 1).trans rfl
        have hcz30_2 : w13.cell? ⟨gb181, 2, none⟩ = some (.int .i64 a0_2) := (blk_cell BK181.out 2).trans rfl
        have hcz30_3 : w13.cell? ⟨gb181, 3, none⟩ = some (.int .u8 a0_3) := (blk_cell BK181.out 3).trans rfl
        have hcz30_4 : w13.cell? ⟨gb181, 4, none⟩ = some (.int .i64 a0_4) := (blk_cell BK181.out 4).trans rfl
        have hcz30_5 : w13.cell? ⟨gb181, 5, none⟩ = some (.int .i64 a0_5) := (blk_cell BK181.out 5).trans rfl
        have hcz30_6 : w13.cell? ⟨gb181, 6, none⟩ = some (.int .i64 a0_6) := (blk_cell BK181.out 6).trans rfl
        have hfz30_0 := blk_frozen BK181.out 0
        have hfz30_1 := blk_frozen BK181.out 1
        have hfz30_2 := blk_frozen BK181.out 2
        have hfz30_3 := blk_frozen BK181.out 3
        have hfz30_4 := blk_frozen BK181.out 4
        have hfz30_5 := blk_frozen BK181.out 5
        have hfz30_6 := blk_frozen BK181.out 6
        go_wp2_with (first | ((with_reducible refine gate_callee (f := 23) rfl ?_); refine goesL_ (some 18) rfl rfl Try.func23 (by kernel_rfl) rfl #[.agg #[.int .u8 a0_0, .int .i64 a0_1, .int .i64 a0_2, .int .u8 a0_3, .int .i64 a0_4, .int .i64 a0_5, .int .i64 a0_6]] rfl (by (try simp only [List.map_toArray, List.map_cons, List.map_nil]); (rfl)) ?_; (with_reducible refine (fold_grid_glued.calls a0_0 a0_1 a0_2 a0_3 a0_4 a0_5 a0_6 false _ A14.out).mono ?_); rintro e w31 ⟨rfl, hb⟩; refine ⟨_, rfl, ?_⟩; replace BK181 := Aside0.mk (blk_below BK181.out hb); replace BK182 := Aside0.mk (blk_below BK182.out hb); replace BK183 := Aside0.mk (blk_below BK183.out hb); replace HB := Aside0.mk (below_step HB.out hb); (try clear hb); have hcz32_0 : w31.cell? ⟨gb181, 0, none⟩ = some (.int .u8 a0_0) := (blk_cell BK181.out 0).trans rfl; have hcz32_1 : w31.cell? ⟨gb181, 1, none⟩ = some (.int .i64 a0_1) := (blk_cell BK181.out 1).trans rfl; have hcz32_2 : w31.cell? ⟨gb181, 2, none⟩ = some (.int .i64 a0_2) := (blk_cell BK181.out 2).trans rfl; have hcz32_3 : w31.cell? ⟨gb181, 3, none⟩ = some (.int .u8 a0_3) := (blk_cell BK181.out 3).trans rfl; have hcz32_4 : w31.cell? ⟨gb181, 4, none⟩ = some (.int .i64 a0_4) := (blk_cell BK181.out 4).trans rfl; have hcz32_5 : w31.cell? ⟨gb181, 5, none⟩ = some (.int .i64 a0_5) := (blk_cell BK181.out 5).trans rfl; have hcz32_6 : w31.cell? ⟨gb181, 6, none⟩ = some (.int .i64 a0_6) := (blk_cell BK181.out 6).trans rfl; have hfz32_0 := blk_frozen BK181.out 0; have hfz32_1 := blk_frozen BK181.out 1; have hfz32_2 := blk_frozen BK181.out 2; have hfz32_3 := blk_frozen BK181.out 3; have hfz32_4 := blk_frozen BK181.out 4; have hfz32_5 := blk_frozen BK181.out 5; have hfz32_6 := blk_frozen BK181.out 6) | (go_at_call 39; (with_reducible refine (fold_on.calls t184 a0_1 false _ A20.out).mono ?_); rintro e w' ⟨rfl, ⟨nd, rfl⟩⟩))
        go_meet
        case rel => exact ⟨_, (!false), (by (rfl)), H', ⟨by (omega)⟩, ⟨by (with_reducible repeat (refine blk_drewN ?_ _)); exact BK181.out⟩, ⟨by (with_reducible repeat (refine blk_drewN ?_ _)); exact BK182.out⟩, ⟨by (with_reducible repeat (refine blk_drewN ?_ _)); exact BK183.out⟩, ⟨by repeat (with_reducible first | exact HB.out | apply pw_below_drewN)⟩⟩
  case rest =>
    clear HC4
    try clear hcz10_0
    try clear hcz10_1
    try clear hcz10_2
    try clear hcz10_3
    try clear hcz10_4
    try clear hcz10_5
    try clear hcz10_6
    try clear hcz12_0
    try clear hcz12_1
    try clear hfz10_0
    try clear hfz10_1
    try clear hfz10_2
    try clear hfz10_3
    try clear hfz10_4
    try clear hfz10_5
    try clear hfz10_6
    try clear hfz12_0
    try clear hfz12_1
    obtain ⟨kq, x34_3, rfl, HA, HJ3, BK181, BK182, BK183, HB⟩ := hcut
    cases kq with
    | zero => exact absurd HA.out (by simp [fold_grid_cell.j0])
    | succ kj3 =>
      have H := HA.out
      clear HA
      simp only [fold_grid_cell.j0] at H
      by_cases c33 : x34_3 = true
      · subst c33
        have H1 : (some (0, 0, 60)) = some (r1, r2, r3) := by rw [if_pos rfl] at H; exact H
        clear H
        have H := H1
        clear H1
        simp only [Option.some.injEq, Prod.mk.injEq] at H
        obtain ⟨rfl, rfl, rfl⟩ := H
        have hnb34 := NB183_181.out
        have hnc34 := NB181_183.out
        have hnb35 := NB183_182.out
        have hnc35 := NB182_183.out
        have hcz36_0 : wc.cell? ⟨gb183, 0, none⟩ = some (.int .i64 0) := (blk_cell BK183.out 0).trans rfl
        have hcz36_1 : wc.cell? ⟨gb183, 1, none⟩ = some (.int .i64 0) := (blk_cell BK183.out 1).trans rfl
        have hfz36_0 := blk_frozen BK183.out 0
        have hfz36_1 := blk_frozen BK183.out 1
        go_wp2
        refine bodyPost_ret (results_ct rfl _ _ gb183 33 #[.int .i64 0, .int .i64 0] (0, 0) _ rfl (by (with_reducible skip); refine blk_put (cs := #[.int .i64 0, .int .i64 0]) ?_ 1 _ rfl; (with_reducible skip); refine blk_put (cs := #[.int .i64 0, .int .i64 0]) ?_ 0 _ rfl; (with_reducible skip); exact BK183.out) Try.underlying33 rfl (by kernel_rfl)) rfl ?_
        exact ⟨by (rfl), by repeat (with_reducible first | exact HB.out | refine below_set ?_ GE183.out)⟩
      · replace c33 := Bool.eq_false_iff.mpr c33
        subst c33
        have H1 : ((fold_way.f a0_0).bind fun t189 => ((fold_dyn.f kj3 t189 a0_0 a0_1 a0_2 a0_3 a0_4 a0_5 a0_6 t184 t185).bind fun bt190 => ((fold_grid_place.f a0_0 a0_1 a0_2 a0_3 a0_4 a0_5 a0_6 bt190.1 bt190.2.1).bind fun bt193 => (some (bt193.1, bt193.2, 0))))) = some (r1, r2, r3) := by rw [if_neg (show ¬ (false = true) by decide)] at H; exact H
        clear H
        have H := H1
        clear H1
        replace H := Option.bind_eq_some_iff.mp H
        obtain ⟨t189, A370, H⟩ := H
        replace H : ((fold_dyn.f kj3 t189 a0_0 a0_1 a0_2 a0_3 a0_4 a0_5 a0_6 t184 t185).bind fun bt190 => ((fold_grid_place.f a0_0 a0_1 a0_2 a0_3 a0_4 a0_5 a0_6 bt190.1 bt190.2.1).bind fun bt193 => (some (bt193.1, bt193.2, 0)))) = some (r1, r2, r3) := H
        have A37 := Aside0.mk A370
        clear A370
        replace H := Option.bind_eq_some_iff.mp H
        obtain ⟨⟨t190, t191, t192⟩, A380, H⟩ := H
        replace H : ((fold_grid_place.f a0_0 a0_1 a0_2 a0_3 a0_4 a0_5 a0_6 t190 t191).bind fun bt193 => (some (bt193.1, bt193.2, 0))) = some (r1, r2, r3) := H
        have A38 := Aside0.mk A380
        clear A380
        replace H := Option.bind_eq_some_iff.mp H
        obtain ⟨⟨t193, t194⟩, A390, H⟩ := H
        replace H : (some (t193, t194, 0)) = some (r1, r2, r3) := H
        have A39 := Aside0.mk A390
        clear A390
        simp only [Option.some.injEq, Prod.mk.injEq] at H
        obtain ⟨rfl, rfl, rfl⟩ := H
        try go_wp2
        replace BK181 := Aside0.mk (blk_drew BK181.out)
        replace BK182 := Aside0.mk (blk_drew BK182.out)
        replace BK183 := Aside0.mk (blk_drew BK183.out)
        replace HB := Aside0.mk (below_drew1 HB.out)
        refine start_ (n := 15) (S := fun w' => w'.cell? ⟨gb181, 0, none⟩ = some (.int .u8 a0_0) ∧ w'.cell? ⟨gb181, 1, none⟩ = some (.int .i64 a0_1) ∧ w'.cell? ⟨gb181, 2, none⟩ = some (.int .i64 a0_2) ∧ w'.cell? ⟨gb181, 3, none⟩ = some (.int .u8 a0_3) ∧ w'.cell? ⟨gb181, 4, none⟩ = some (.int .i64 a0_4) ∧ w'.cell? ⟨gb181, 5, none⟩ = some (.int .i64 a0_5) ∧ w'.cell? ⟨gb181, 6, none⟩ = some (.int .i64 a0_6)) (ds := []) #[false, false, false, false, false, false, false, false, false, false, false, false, false, false, false] (by kernel_rfl) rfl rfl ⟨(blk_cell BK181.out 0).trans rfl, (blk_cell BK181.out 1).trans rfl, (blk_cell BK181.out 2).trans rfl, (blk_cell BK181.out 3).trans rfl, (blk_cell BK181.out 4).trans rfl, (blk_cell BK181.out 5).trans rfl, (blk_cell BK181.out 6).trans rfl⟩ (fun hHeld => ?_); refine with_tabW fold_grid_cell.tab4 fold_grid_cell.bits4 (fun HT_ HW_ => ?_)
        generalize wc.drew = w40 at BK181 BK182 BK183 HB hHeld ⊢
        refine pure_ (i := 0) (N := some 37) (v := ?_) (a' := ?_) #[true, false, false, false, false, false, false, false, false, false, false, false, false, false, false] rfl rfl (any_of HT_.out (by kernel_rfl)) (fun _ _ _ h => h) (Or.inl ⟨by rfl, ?_⟩) ?_ ?_
        rotate_left
        · intro w'
          go_simp
          with_reducible rfl
        rotate_left
        · simp only [Act.put, List.setIfInBounds_toArray, List.set_cons_zero, List.set_cons_succ, i64_w, i32_w]
          rfl
        refine pure_ (i := 1) (N := some 38) (v := ?_) (a' := ?_) #[true, true, false, false, false, false, false, false, false, false, false, false, false, false, false] rfl rfl (any_of HT_.out (by kernel_rfl)) (fun _ _ _ h => h) (Or.inl ⟨by rfl, ?_⟩) ?_ ?_
        rotate_left
        · intro w'
          go_simp
          with_reducible rfl
        rotate_left
        · simp only [Act.put, List.setIfInBounds_toArray, List.set_cons_zero, List.set_cons_succ, i64_w, i32_w]
          rfl
        refine pure_ (i := 5) (N := some 42) (v := ?_) (a' := ?_) #[true, true, false, false, false, true, false, false, false, false, false, false, false, false, false] rfl rfl (any_of HT_.out (by kernel_rfl)) (fun _ _ _ h => h) (Or.inl ⟨by rfl, ?_⟩) ?_ ?_
        rotate_left
        · intro w'
          go_simp
          with_reducible rfl
        rotate_left
        · simp only [Act.put, List.setIfInBounds_toArray, List.set_cons_zero, List.set_cons_succ, i64_w, i32_w]
          rfl
        refine pure_ (i := 6) (N := some 43) (v := ?_) (a' := ?_) #[true, true, false, false, false, true, true, false, false, false, false, false, false, false, false] rfl rfl (any_of HT_.out (by kernel_rfl)) (fun _ _ _ h => h) (Or.inl ⟨by rfl, ?_⟩) ?_ ?_
        rotate_left
        · intro w'
          go_simp
          with_reducible rfl
        rotate_left
        · simp only [Act.put, List.setIfInBounds_toArray, List.set_cons_zero, List.set_cons_succ, i64_w, i32_w]
          rfl
        refine take_ (i := 2) (N := some 39) (v := ?_) (a' := ?_) #[true, true, true, false, false, true, true, false, false, false, false, false, false, false, false] rfl rfl (take_ofW HT_.out HW_.out (by kernel_rfl)) (fun _ _ _ h => h) (Or.inl ⟨by rfl, ?_⟩) hHeld ?_ ?_
        rotate_left
        · rintro w' ⟨s0, s1, s2, s3, s4, s5, s6⟩
          go_simp
          with_reducible rfl
        rotate_left
        · simp only [Act.put, List.setIfInBounds_toArray, List.set_cons_zero, List.set_cons_succ, i64_w, i32_w]
          rfl
        refine take_ (i := 4) (N := some 41) (v := ?_) (a' := ?_) #[true, true, true, false, true, true, true, false, false, false, false, false, false, false, false] rfl rfl (take_ofW HT_.out HW_.out (by kernel_rfl)) (fun _ _ _ h => h) (Or.inl ⟨by rfl, ?_⟩) hHeld ?_ ?_
        rotate_left
        · rintro w' ⟨s0, s1, s2, s3, s4, s5, s6⟩
          go_simp
          with_reducible rfl
        rotate_left
        · simp only [Act.put, List.setIfInBounds_toArray, List.set_cons_zero, List.set_cons_succ, i64_w, i32_w]
          rfl
        refine one_ (i := 3) (N := some 40) #[true, true, true, true, true, true, true, false, false, false, false, false, false, false, false] rfl rfl (one_of HT_.out (by kernel_rfl)) (by decide) (fun K hK => ?_)
        refine goes_ Try.func20 (by kernel_rfl) rfl #[.int .u8 a0_0] (by rfl) rfl rfl (by (try simp only [List.map_toArray, List.map_cons, List.map_nil]); (rfl)) ?_
        with_reducible refine (fold_way.calls a0_0 t189 _ A37.out).mono ?_
        rintro e w41 ⟨rfl, hb⟩
        refine ⟨_, rfl, ?_⟩
        replace BK181 := Aside0.mk (blk_below BK181.out hb)
        replace BK182 := Aside0.mk (blk_below BK182.out hb)
        replace BK183 := Aside0.mk (blk_below BK183.out hb)
        replace HB := Aside0.mk (below_step HB.out hb)
        (try clear hb)
        refine hK.out _ _ ⟨(blk_cell BK181.out 0).trans rfl, (blk_cell BK181.out 1).trans rfl, (blk_cell BK181.out 2).trans rfl, (blk_cell BK181.out 3).trans rfl, (blk_cell BK181.out 4).trans rfl, (blk_cell BK181.out 5).trans rfl, (blk_cell BK181.out 6).trans rfl⟩ (fun hHeld => ?_)
        clear hK K
        refine norm_ (a' := ?_) ?_ ?_
        rotate_left
        · show Act.put _ (some 40) _ = _
          simp only [Act.put, List.setIfInBounds_toArray, List.set_cons_zero, List.set_cons_succ, i64_w, i32_w]
          rfl
        refine one_ (i := 7) (N := some 44) #[true, true, true, true, true, true, true, true, false, false, false, false, false, false, false] rfl rfl (one_of HT_.out (by kernel_rfl)) (by decide) (fun K hK => ?_)
        refine goesF_ _ (fold_dyn.found A38.out) #[.agg #[.int .u8 a0_0, .int .i64 a0_1, .int .i64 a0_2, .int .u8 a0_3, .int .i64 a0_4, .int .i64 a0_5, .int .i64 a0_6], .int .i64 t184, .int .i64 t185] (by rfl) rfl rfl (by rfl) (by (try simp only [List.map_toArray, List.map_cons, List.map_nil]); (rfl)) ?_
        with_reducible refine (fold_dyn.calls kj3 t189 a0_0 a0_1 a0_2 a0_3 a0_4 a0_5 a0_6 t184 t185 t190 t191 t192 _ A38.out).mono ?_
        rintro e w42 ⟨rfl, hb⟩
        refine ⟨_, rfl, ?_⟩
        replace BK181 := Aside0.mk (blk_below BK181.out hb)
        replace BK182 := Aside0.mk (blk_below BK182.out hb)
        replace BK183 := Aside0.mk (blk_below BK183.out hb)
        replace HB := Aside0.mk (below_step HB.out hb)
        (try clear hb)
        refine hK.out _ _ ⟨(blk_cell BK181.out 0).trans rfl, (blk_cell BK181.out 1).trans rfl, (blk_cell BK181.out 2).trans rfl, (blk_cell BK181.out 3).trans rfl, (blk_cell BK181.out 4).trans rfl, (blk_cell BK181.out 5).trans rfl, (blk_cell BK181.out 6).trans rfl⟩ (fun hHeld => ?_)
        clear hK K
        refine norm_ (a' := ?_) ?_ ?_
        rotate_left
        · show Act.put _ (some 44) _ = _
          simp only [Act.put, List.setIfInBounds_toArray, List.set_cons_zero, List.set_cons_succ, i64_w, i32_w]
          rfl
        refine pure_ (i := 8) (N := some 36) (v := ?_) (a' := ?_) #[true, true, true, true, true, true, true, true, true, false, false, false, false, false, false] rfl rfl (any_of HT_.out (by kernel_rfl)) (fun _ _ _ h => h) (Or.inl ⟨by rfl, ?_⟩) ?_ ?_
        rotate_left
        · intro w'
          go_simp
          with_reducible rfl
        rotate_left
        · simp only [Act.put, List.setIfInBounds_toArray, List.set_cons_zero, List.set_cons_succ, i64_w, i32_w]
          rfl
        refine pure_ (i := 9) (N := some 45) (v := ?_) (a' := ?_) #[true, true, true, true, true, true, true, true, true, true, false, false, false, false, false] rfl rfl (any_of HT_.out (by kernel_rfl)) (fun _ _ _ h => h) (Or.inl ⟨by rfl, ?_⟩) ?_ ?_
        rotate_left
        · intro w'
          go_simp
          with_reducible rfl
        rotate_left
        · simp only [Act.put, List.setIfInBounds_toArray, List.set_cons_zero, List.set_cons_succ, i64_w, i32_w]
          rfl
        refine pure_ (i := 10) (N := some 46) (v := ?_) (a' := ?_) #[true, true, true, true, true, true, true, true, true, true, true, false, false, false, false] rfl rfl (any_of HT_.out (by kernel_rfl)) (fun _ _ _ h => h) (Or.inl ⟨by rfl, ?_⟩) ?_ ?_
        rotate_left
        · intro w'
          go_simp
          with_reducible rfl
        rotate_left
        · simp only [Act.put, List.setIfInBounds_toArray, List.set_cons_zero, List.set_cons_succ, i64_w, i32_w]
          rfl
        refine pure_ (i := 11) (N := some 47) (v := ?_) (a' := ?_) #[true, true, true, true, true, true, true, true, true, true, true, true, false, false, false] rfl rfl (any_of HT_.out (by kernel_rfl)) (fun _ _ _ h => h) (Or.inl ⟨by rfl, ?_⟩) ?_ ?_
        rotate_left
        · intro w'
          go_simp
          with_reducible rfl
        rotate_left
        · simp only [Act.put, List.setIfInBounds_toArray, List.set_cons_zero, List.set_cons_succ, i64_w, i32_w]
          rfl
        refine pure_ (i := 12) (N := some 8) (v := ?_) (a' := ?_) #[true, true, true, true, true, true, true, true, true, true, true, true, true, false, false] rfl rfl (any_of HT_.out (by kernel_rfl)) (fun _ _ _ h => h) (Or.inl ⟨by rfl, ?_⟩) ?_ ?_
        rotate_left
        · intro w'
          go_simp
          with_reducible rfl
        rotate_left
        · simp only [Act.put, List.setIfInBounds_toArray, List.set_cons_zero, List.set_cons_succ, i64_w, i32_w]
          rfl
        refine pure_ (i := 13) (N := some 9) (v := ?_) (a' := ?_) #[true, true, true, true, true, true, true, true, true, true, true, true, true, true, false] rfl rfl (any_of HT_.out (by kernel_rfl)) (fun _ _ _ h => h) (Or.inl ⟨by rfl, ?_⟩) ?_ ?_
        rotate_left
        · intro w'
          go_simp
          with_reducible rfl
        rotate_left
        · simp only [Act.put, List.setIfInBounds_toArray, List.set_cons_zero, List.set_cons_succ, i64_w, i32_w]
          rfl
        refine pure_ (i := 14) (N := some 10) (v := ?_) (a' := ?_) #[true, true, true, true, true, true, true, true, true, true, true, true, true, true, true] rfl rfl (any_of HT_.out (by kernel_rfl)) (fun _ _ _ h => h) (Or.inl ⟨by rfl, ?_⟩) ?_ ?_
        rotate_left
        · intro w'
          go_simp
          with_reducible rfl
        rotate_left
        · simp only [Act.put, List.setIfInBounds_toArray, List.set_cons_zero, List.set_cons_succ, i64_w, i32_w]
          rfl
        refine done_ (done_of HT_.out (by kernel_rfl)) ?_
        have hnb43 := NB181_182.out
        have hnc43 := NB182_181.out
        have hnb44 := NB181_183.out
        have hnc44 := NB183_181.out
        have hcz45_0 : w42.cell? ⟨gb181, 0, none⟩ = some (.int .u8 a0_0) := (blk_cell BK181.out 0).trans rfl
        have hcz45_1 : w42.cell? ⟨gb181, 1, none⟩ = some (.int .i64 a0_1) := (blk_cell BK181.out 1).trans rfl
        have hcz45_2 : w42.cell? ⟨gb181, 2, none⟩ = some (.int .i64 a0_2) := (blk_cell BK181.out 2).trans rfl
        have hcz45_3 : w42.cell? ⟨gb181, 3, none⟩ = some (.int .u8 a0_3) := (blk_cell BK181.out 3).trans rfl
        have hcz45_4 : w42.cell? ⟨gb181, 4, none⟩ = some (.int .i64 a0_4) := (blk_cell BK181.out 4).trans rfl
        have hcz45_5 : w42.cell? ⟨gb181, 5, none⟩ = some (.int .i64 a0_5) := (blk_cell BK181.out 5).trans rfl
        have hcz45_6 : w42.cell? ⟨gb181, 6, none⟩ = some (.int .i64 a0_6) := (blk_cell BK181.out 6).trans rfl
        have hfz45_0 := blk_frozen BK181.out 0
        have hfz45_1 := blk_frozen BK181.out 1
        have hfz45_2 := blk_frozen BK181.out 2
        have hfz45_3 := blk_frozen BK181.out 3
        have hfz45_4 := blk_frozen BK181.out 4
        have hfz45_5 := blk_frozen BK181.out 5
        have hfz45_6 := blk_frozen BK181.out 6
        try go_wp2_with ((((with_reducible refine gate_callee (f := 21) rfl ?_); refine goesL_ (some 51) rfl rfl Try.func21 (by kernel_rfl) rfl #[.agg #[.int .u8 a0_0, .int .i64 a0_1, .int .i64 a0_2, .int .u8 a0_3, .int .i64 a0_4, .int .i64 a0_5, .int .i64 a0_6], .int .i64 t190, .int .i64 t191] rfl (by (try simp only [List.map_toArray, List.map_cons, List.map_nil]); (rfl)) ?_; (with_reducible refine (fold_grid_place.calls a0_0 a0_1 a0_2 a0_3 a0_4 a0_5 a0_6 t190 t191 t193 t194 _ A39.out).mono ?_); rintro e w46 ⟨rfl, hb⟩; refine ⟨_, rfl, ?_⟩; replace BK181 := Aside0.mk (blk_below BK181.out hb); replace BK182 := Aside0.mk (blk_below BK182.out hb); replace BK183 := Aside0.mk (blk_below BK183.out hb); replace HB := Aside0.mk (below_step HB.out hb); (try clear hb); have hnb47 := NB183_182.out; have hnc47 := NB182_183.out; have hcz48_0 : w46.cell? ⟨gb183, 0, none⟩ = some (.int .i64 0) := (blk_cell BK183.out 0).trans rfl; have hcz48_1 : w46.cell? ⟨gb183, 1, none⟩ = some (.int .i64 0) := (blk_cell BK183.out 1).trans rfl; have hfz48_0 := blk_frozen BK183.out 0; have hfz48_1 := blk_frozen BK183.out 1)))
        refine bodyPost_ret (results_ct rfl _ _ gb183 33 #[.int .i64 t193, .int .i64 t194] (0, 0) _ rfl (by (with_reducible skip); refine blk_put (cs := #[.int .i64 t193, .int .i64 0]) ?_ 1 _ rfl; (with_reducible skip); refine blk_put (cs := #[.int .i64 0, .int .i64 0]) ?_ 0 _ rfl; (with_reducible skip); exact BK183.out) Try.underlying33 rfl (by kernel_rfl)) rfl ?_
        exact ⟨by (rfl), by repeat (with_reducible first | exact HB.out | refine below_set ?_ GE183.out)⟩

/-! ### fold_Cell: function 9 -/
def fold_Cell.f (k : Nat) (a0_0 : Int) (a0_1 : Int) (a0_2 : Int) (a0_3 : Int) (a0_4 : Int) (a1_0 : Int) (a1_1 : Int) : Option (Int × Int × Int) := (fold_of.f k a0_0 a0_1 a0_2 a0_3 a0_4 (([(⟨a1_0, a1_1⟩ : S33)] : List (S33)))).bind fun bt201 => (if bt201.2.2.2.2.2.2.2 = 0 then ((fold_grid_cell.f k bt201.1 bt201.2.1 bt201.2.2.1 bt201.2.2.2.1 bt201.2.2.2.2.1 bt201.2.2.2.2.2.1 bt201.2.2.2.2.2.2.1 a1_0 a1_1).bind fun bt210 => (some (bt210.1, bt210.2.1, bt210.2.2))) else (some (0, 0, bt201.2.2.2.2.2.2.2)))
theorem fold_Cell.mono : ∀ a0 a1 a2 a3 a4 a5 a6 k, LeO (fold_Cell.f k a0 a1 a2 a3 a4 a5 a6) (fold_Cell.f (k + 1) a0 a1 a2 a3 a4 a5 a6) := by
  intro a0 a1 a2 a3 a4 a5 a6 k
  unfold fold_Cell.f
  repeat' first
      | (with_reducible exact fold_grid_cell.mono _ _ _ _ _ _ _ _ _ _)
      | (with_reducible exact fold_of.mono _ _ _ _ _ _ _)
      | (with_reducible exact LeO.refl _)
      | (with_reducible refine LeO.ite ?_ ?_)
      | (with_reducible refine LeO.bind ?_ (fun _ => ?_))
set_option maxHeartbeats 8000000 in
set_option maxRecDepth 100000 in
theorem fold_Cell.calls (k : Nat) (a0_0 : Int) (a0_1 : Int) (a0_2 : Int) (a0_3 : Int) (a0_4 : Int) (a1_0 : Int) (a1_1 : Int) (r1 : Int) (r2 : Int) (r3 : Int) (w : World) (h : fold_Cell.f k a0_0 a0_1 a0_2 a0_3 a0_4 a1_0 a1_1 = some (r1, r2, r3)) :
    Calls Try.prog 9 #[.agg #[.int .u8 a0_0, .int .i64 a0_1, .int .i64 a0_2, .int .u8 a0_3, .int .i64 a0_4], .agg #[.int .i64 a1_0, .int .i64 a1_1]] w fun e w' => e = .returned (.tuple #[.agg #[.int .i64 r1, .int .i64 r2], .int .i64 r3]) ∧ Below w.heap.size w w' := by
  have hu23 := Try.underlying23
  have hu33 := Try.underlying33
  have hu56 := Try.underlying56
  have HB := Aside0.mk (Below.refl w.heap.size w)
  have H : ((fold_of.f k a0_0 a0_1 a0_2 a0_3 a0_4 ([(⟨a1_0, a1_1⟩ : S33)] : List (S33))).bind fun bt201 => (if bt201.2.2.2.2.2.2.2 = 0 then ((fold_grid_cell.f k bt201.1 bt201.2.1 bt201.2.2.1 bt201.2.2.2.1 bt201.2.2.2.2.1 bt201.2.2.2.2.2.1 bt201.2.2.2.2.2.2.1 a1_0 a1_1).bind fun bt210 => (some (bt210.1, bt210.2.1, bt210.2.2))) else (some (0, 0, bt201.2.2.2.2.2.2.2)))) = some (r1, r2, r3) := h
  clear h
  obtain ⟨y198, hy198⟩ : ∃ y_ : List (S33), y_ = ([(⟨a1_0, a1_1⟩ : S33)] : List (S33)) := ⟨_, rfl⟩
  replace H : ((fold_of.f k a0_0 a0_1 a0_2 a0_3 a0_4 y198).bind fun bt201 => (if bt201.2.2.2.2.2.2.2 = 0 then ((fold_grid_cell.f k bt201.1 bt201.2.1 bt201.2.2.1 bt201.2.2.2.1 bt201.2.2.2.2.1 bt201.2.2.2.2.2.1 bt201.2.2.2.2.2.2.1 a1_0 a1_1).bind fun bt210 => (some (bt210.1, bt210.2.1, bt210.2.2))) else (some (0, 0, bt201.2.2.2.2.2.2.2)))) = some (r1, r2, r3) := by (rw [hy198]; with_reducible exact H)
  have Ny198 := Aside0.mk hy198
  clear hy198
  replace H := Option.bind_eq_some_iff.mp H
  obtain ⟨⟨t201, t202, t203, t204, t205, t206, t207, t208⟩, A30, H⟩ := H
  replace H : (if t208 = 0 then ((fold_grid_cell.f k t201 t202 t203 t204 t205 t206 t207 a1_0 a1_1).bind fun bt210 => (some (bt210.1, bt210.2.1, bt210.2.2))) else (some (0, 0, t208))) = some (r1, r2, r3) := H
  have A3 := Aside0.mk A30
  clear A30
  by_cases c4 : t208 = 0
  · rw [if_pos c4] at H
    have c4b0 : (t208 == 0) = true := beq_iff_eq.mpr c4
    have c4b1 : (t208 != 0) = false := bne_eq_false_iff_eq.mpr c4
    clear c4
    replace H := Option.bind_eq_some_iff.mp H
    obtain ⟨⟨t210, t211, t212⟩, A50, H⟩ := H
    replace H : (some (t210, t211, t212)) = some (r1, r2, r3) := H
    have A5 := Aside0.mk A50
    clear A50
    simp only [Option.some.injEq, Prod.mk.injEq] at H
    obtain ⟨rfl, rfl, rfl⟩ := H
    go_enter Try.func9, Try.ntmps9
    go_wp2_with (first | ((with_reducible refine gate_dst (N := 2) rfl ?_); refine box_event ?hg (N := 2) ?hd (cs := #[.int .u8 a0_0, .int .i64 a0_1, .int .i64 a0_2, .int .u8 a0_3, .int .i64 a0_4]) (t := 23) ?hr ?_; (case hd => rfl); (case hg => rfl); (case hr => (go_simp; done)); intro gb195 hg w6 hbox hb; have BK195 := Aside0.mk hbox; have GW195 := Aside0.mk ((by rw [hg]; exact (below_size HB.out) : w.heap.size ≤ gb195)); have GE195 := Aside0.mk ((by rw [hg]; exact (below_size HB.out) : w.heap.size ≤ gb195)); replace HB := Aside0.mk (below_step HB.out hb); clear hb hbox hg) | ((with_reducible refine gate_dst (N := 3) rfl ?_); refine box_event ?hg (N := 3) ?hd (cs := #[.int .i64 a1_0, .int .i64 a1_1]) (t := 33) ?hr ?_; (case hd => rfl); (case hg => rfl); (case hr => (go_simp; done)); intro gb196 hg w7 hbox hb; have BK196 := Aside0.mk hbox; have GW196 := Aside0.mk ((by rw [hg]; exact (below_size HB.out) : w.heap.size ≤ gb196)); have GE196 := Aside0.mk ((by rw [hg]; exact (below_size HB.out) : w.heap.size ≤ gb196)); have NB195_196 := Aside0.mk ((by rw [hg]; exact Nat.ne_of_lt (blk_lt BK195.out) : gb195 ≠ gb196)); have NB196_195 := Aside0.mk ((by rw [hg]; exact Nat.ne_of_gt (blk_lt BK195.out) : gb196 ≠ gb195)); replace BK195 := Aside0.mk (blk_below BK195.out hb); replace HB := Aside0.mk (below_step HB.out hb); clear hb hbox hg) | ((with_reducible refine gate_dst (N := 4) rfl ?_); refine box_event ?hg (N := 4) ?hd (cs := #[.int .i64 0, .int .i64 0]) (t := 33) ?hr ?_; (case hd => rfl); (case hg => rfl); (case hr => (go_simp; done)); intro gb197 hg w8 hbox hb; have BK197 := Aside0.mk hbox; have GW197 := Aside0.mk ((by rw [hg]; exact (below_size HB.out) : w.heap.size ≤ gb197)); have GE197 := Aside0.mk ((by rw [hg]; exact (below_size HB.out) : w.heap.size ≤ gb197)); have NB195_197 := Aside0.mk ((by rw [hg]; exact Nat.ne_of_lt (blk_lt BK195.out) : gb195 ≠ gb197)); have NB197_195 := Aside0.mk ((by rw [hg]; exact Nat.ne_of_gt (blk_lt BK195.out) : gb197 ≠ gb195)); have NB196_197 := Aside0.mk ((by rw [hg]; exact Nat.ne_of_lt (blk_lt BK196.out) : gb196 ≠ gb197)); have NB197_196 := Aside0.mk ((by rw [hg]; exact Nat.ne_of_gt (blk_lt BK196.out) : gb197 ≠ gb196)); replace BK195 := Aside0.mk (blk_below BK195.out hb); replace BK196 := Aside0.mk (blk_below BK196.out hb); replace HB := Aside0.mk (below_step HB.out hb); clear hb hbox hg; have hnb9 := NB195_196.out; have hnc9 := NB196_195.out; have hnb10 := NB195_197.out; have hnc10 := NB197_195.out; have hcz11_0 : w8.cell? ⟨gb195, 0, none⟩ = some (.int .u8 a0_0) := (blk_cell BK195.out 0).trans rfl; have hcz11_1 : w8.cell? ⟨gb195, 1, none⟩ = some (.int .i64 a0_1) := (blk_cell BK195.out 1).trans rfl; have hcz11_2 : w8.cell? ⟨gb195, 2, none⟩ = some (.int .i64 a0_2) := (blk_cell BK195.out 2).trans rfl; have hcz11_3 : w8.cell? ⟨gb195, 3, none⟩ = some (.int .u8 a0_3) := (blk_cell BK195.out 3).trans rfl; have hcz11_4 : w8.cell? ⟨gb195, 4, none⟩ = some (.int .i64 a0_4) := (blk_cell BK195.out 4).trans rfl; have hfz11_0 := blk_frozen BK195.out 0; have hfz11_1 := blk_frozen BK195.out 1; have hfz11_2 := blk_frozen BK195.out 2; have hfz11_3 := blk_frozen BK195.out 3; have hfz11_4 := blk_frozen BK195.out 4; have hnb12 := NB196_197.out; have hnc12 := NB197_196.out; have hcz13_0 : w8.cell? ⟨gb196, 0, none⟩ = some (.int .i64 a1_0) := (blk_cell BK196.out 0).trans rfl; have hcz13_1 : w8.cell? ⟨gb196, 1, none⟩ = some (.int .i64 a1_1) := (blk_cell BK196.out 1).trans rfl; have hfz13_0 := blk_frozen BK196.out 0; have hfz13_1 := blk_frozen BK196.out 1) | ((with_reducible refine gate_dst (N := 11) rfl ?_); refine Kd.R_lit k33 _ 33 ?hg (N := 11) ?hd (xs := ([(⟨a1_0, a1_1⟩ : S33)] : List (S33))) (inner := [.int .i64 a1_0, .int .i64 a1_1]) (ok := fun _ => True) (okp := fun _ => True) ?hr ?hp (fun _ hk => hk) trivial (Below.refl _ _) (Nat.le_refl _) (by simp) ?_; (case hd => rfl); (case hg => rfl); (case hr => (go_simp; done)); (case hp => exact (Reps.c2 (show Kd.M k33 _ _ _ (⟨a1_0, a1_1⟩ : S33) [.int .i64 a1_0, .int .i64 a1_1] from (k33_mkM _ _ _ (⟨a1_0, a1_1⟩ : S33) )) (Reps.none _ _))); intro v199 w14 ho15 hb hg_ hnew_; clear hg_ hnew_; (rw [← Ny198.out] at ho15); have HO200 := Aside0.mk (Kd.R_lower (Kd.R_newB (Kd.R_newB ho15 BK196.out) BK197.out) (below_size HB.out)); replace BK195 := Aside0.mk (blk_below BK195.out hb); replace BK196 := Aside0.mk (blk_below BK196.out hb); replace BK197 := Aside0.mk (blk_below BK197.out hb); replace HB := Aside0.mk (below_step HB.out hb); clear hb ho15; obtain ⟨Ao16, co16, eo16⟩ := Kd.R_slice HO200.out; subst eo16) | ((with_reducible refine gate_callee (f := 18) rfl ?_); refine goesL_ (some 12) rfl rfl Try.func18 (by kernel_rfl) rfl #[.agg #[.int .u8 a0_0, .int .i64 a0_1, .int .i64 a0_2, .int .u8 a0_3, .int .i64 a0_4], .slice Ao16 y198.length co16] rfl (by (try simp only [List.map_toArray, List.map_cons, List.map_nil]); (rfl)) ?_; (with_reducible refine (fold_of.calls k a0_0 a0_1 a0_2 a0_3 a0_4 _ _ y198 t201 t202 t203 t204 t205 t206 t207 t208 _ ?side1 ?side2 A3.out).mono ?_); (case side1 => repeat (exact (Kd.R_reads' HO200.out).2.2)); (case side2 => exact (Kd.R_reads' HO200.out).2.1); rintro e w17 ⟨rfl, hb⟩; refine ⟨_, rfl, ?_⟩; replace HO200 := Aside0.mk (Kd.R_below HO200.out hb); replace BK195 := Aside0.mk (blk_below BK195.out hb); replace BK196 := Aside0.mk (blk_below BK196.out hb); replace BK197 := Aside0.mk (blk_below BK197.out hb); replace HB := Aside0.mk (below_step HB.out hb); (try clear hb)) | ((with_reducible refine gate_dst (N := 6) rfl ?_); refine box_event ?hg (N := 6) ?hd (cs := #[.int .u8 0, .int .i64 0, .int .i64 0, .int .u8 0, .int .i64 0, .int .i64 0, .int .i64 0]) (t := 56) ?hr ?_; (case hd => rfl); (case hg => rfl); (case hr => (go_simp; done)); intro gb209 hg w18 hbox hb; have BK209 := Aside0.mk hbox; have GW209 := Aside0.mk ((by rw [hg]; exact (below_size HB.out) : w.heap.size ≤ gb209)); have GE209 := Aside0.mk ((by rw [hg]; exact (below_size HB.out) : w.heap.size ≤ gb209)); have NB195_209 := Aside0.mk ((by rw [hg]; exact Nat.ne_of_lt (blk_lt BK195.out) : gb195 ≠ gb209)); have NB209_195 := Aside0.mk ((by rw [hg]; exact Nat.ne_of_gt (blk_lt BK195.out) : gb209 ≠ gb195)); have NB196_209 := Aside0.mk ((by rw [hg]; exact Nat.ne_of_lt (blk_lt BK196.out) : gb196 ≠ gb209)); have NB209_196 := Aside0.mk ((by rw [hg]; exact Nat.ne_of_gt (blk_lt BK196.out) : gb209 ≠ gb196)); have NB197_209 := Aside0.mk ((by rw [hg]; exact Nat.ne_of_lt (blk_lt BK197.out) : gb197 ≠ gb209)); have NB209_197 := Aside0.mk ((by rw [hg]; exact Nat.ne_of_gt (blk_lt BK197.out) : gb209 ≠ gb197)); replace HO200 := Aside0.mk (Kd.R_below HO200.out hb); replace BK195 := Aside0.mk (blk_below BK195.out hb); replace BK196 := Aside0.mk (blk_below BK196.out hb); replace BK197 := Aside0.mk (blk_below BK197.out hb); replace HB := Aside0.mk (below_step HB.out hb); clear hb hbox hg; have hnb19 := NB209_195.out; have hnc19 := NB195_209.out; have hnb20 := NB209_196.out; have hnc20 := NB196_209.out; have hnb21 := NB209_197.out; have hnc21 := NB197_209.out; have hcz22_0 : w18.cell? ⟨gb209, 0, none⟩ = some (.int .u8 0) := (blk_cell BK209.out 0).trans rfl; have hcz22_1 : w18.cell? ⟨gb209, 1, none⟩ = some (.int .i64 0) := (blk_cell BK209.out 1).trans rfl; have hcz22_2 : w18.cell? ⟨gb209, 2, none⟩ = some (.int .i64 0) := (blk_cell BK209.out 2).trans rfl; have hcz22_3 : w18.cell? ⟨gb209, 3, none⟩ = some (.int .u8 0) := (blk_cell BK209.out 3).trans rfl; have hcz22_4 : w18.cell? ⟨gb209, 4, none⟩ = some (.int .i64 0) := (blk_cell BK209.out 4).trans rfl; have hcz22_5 : w18.cell? ⟨gb209, 5, none⟩ = some (.int .i64 0) := (blk_cell BK209.out 5).trans rfl; have hcz22_6 : w18.cell? ⟨gb209, 6, none⟩ = some (.int .i64 0) := (blk_cell BK209.out 6).trans rfl; have hfz22_0 := blk_frozen BK209.out 0; have hfz22_1 := blk_frozen BK209.out 1; have hfz22_2 := blk_frozen BK209.out 2; have hfz22_3 := blk_frozen BK209.out 3; have hfz22_4 := blk_frozen BK209.out 4; have hfz22_5 := blk_frozen BK209.out 5; have hfz22_6 := blk_frozen BK209.out 6; have hcz23_0 : w18.cell? ⟨gb196, 0, none⟩ = some (.int .i64 a1_0) := (blk_cell BK196.out 0).trans rfl; have hcz23_1 : w18.cell? ⟨gb196, 1, none⟩ = some (.int .i64 a1_1) := (blk_cell BK196.out 1).trans rfl; have hfz23_0 := blk_frozen BK196.out 0; have hfz23_1 := blk_frozen BK196.out 1) | ((with_reducible refine gate_callee (f := 22) rfl ?_); refine goesL_ (some 21) rfl rfl Try.func22 (by kernel_rfl) rfl #[.agg #[.int .u8 t201, .int .i64 t202, .int .i64 t203, .int .u8 t204, .int .i64 t205, .int .i64 t206, .int .i64 t207], .agg #[.int .i64 a1_0, .int .i64 a1_1]] rfl (by (try simp only [List.map_toArray, List.map_cons, List.map_nil]); (rfl)) ?_; (with_reducible refine (fold_grid_cell.calls k t201 t202 t203 t204 t205 t206 t207 a1_0 a1_1 t210 t211 t212 _ A5.out).mono ?_); rintro e w24 ⟨rfl, hb⟩; refine ⟨_, rfl, ?_⟩; replace HO200 := Aside0.mk (Kd.R_below (by (with_reducible skip); exact (Kd.R_mono (Kd.R_far (p := ⟨gb209, 6, none⟩) (Kd.R_far (p := ⟨gb209, 5, none⟩) (Kd.R_far (p := ⟨gb209, 4, none⟩) (Kd.R_far (p := ⟨gb209, 3, none⟩) (Kd.R_far (p := ⟨gb209, 2, none⟩) (Kd.R_far (p := ⟨gb209, 1, none⟩) (Kd.R_far (p := ⟨gb209, 0, none⟩) (Kd.R_types HO200.out BK209.out (by decide)) (fun _ hk => hk.2) (.int .u8 t201)) (fun _ hk => hk.2) (.int .i64 t202)) (fun _ hk => hk.2) (.int .i64 t203)) (fun _ hk => hk.2) (.int .u8 t204)) (fun _ hk => hk.2) (.int .i64 t205)) (fun _ hk => hk.2) (.int .i64 t206)) (fun _ hk => hk.2) (.int .i64 t207)) (fun _ h_ => h_.1))) hb); replace BK195 := Aside0.mk (blk_below (blk_far (blk_far (blk_far (blk_far (blk_far (blk_far (blk_far BK195.out NB195_209.out _) NB195_209.out _) NB195_209.out _) NB195_209.out _) NB195_209.out _) NB195_209.out _) NB195_209.out _) hb); replace BK196 := Aside0.mk (blk_below (blk_far (blk_far (blk_far (blk_far (blk_far (blk_far (blk_far BK196.out NB196_209.out _) NB196_209.out _) NB196_209.out _) NB196_209.out _) NB196_209.out _) NB196_209.out _) NB196_209.out _) hb); replace BK197 := Aside0.mk (blk_below (blk_far (blk_far (blk_far (blk_far (blk_far (blk_far (blk_far BK197.out NB197_209.out _) NB197_209.out _) NB197_209.out _) NB197_209.out _) NB197_209.out _) NB197_209.out _) NB197_209.out _) hb); replace BK209 := Aside0.mk (blk_below (g := gb209) (o := .cells #[.int .u8 t201, .int .i64 t202, .int .i64 t203, .int .u8 t204, .int .i64 t205, .int .i64 t206, .int .i64 t207] 56 (0, 0)) (by (with_reducible skip); refine blk_put (cs := #[.int .u8 t201, .int .i64 t202, .int .i64 t203, .int .u8 t204, .int .i64 t205, .int .i64 t206, .int .i64 0]) ?_ 6 _ rfl; (with_reducible skip); refine blk_put (cs := #[.int .u8 t201, .int .i64 t202, .int .i64 t203, .int .u8 t204, .int .i64 t205, .int .i64 0, .int .i64 0]) ?_ 5 _ rfl; (with_reducible skip); refine blk_put (cs := #[.int .u8 t201, .int .i64 t202, .int .i64 t203, .int .u8 t204, .int .i64 0, .int .i64 0, .int .i64 0]) ?_ 4 _ rfl; (with_reducible skip); refine blk_put (cs := #[.int .u8 t201, .int .i64 t202, .int .i64 t203, .int .u8 0, .int .i64 0, .int .i64 0, .int .i64 0]) ?_ 3 _ rfl; (with_reducible skip); refine blk_put (cs := #[.int .u8 t201, .int .i64 t202, .int .i64 0, .int .u8 0, .int .i64 0, .int .i64 0, .int .i64 0]) ?_ 2 _ rfl; (with_reducible skip); refine blk_put (cs := #[.int .u8 t201, .int .i64 0, .int .i64 0, .int .u8 0, .int .i64 0, .int .i64 0, .int .i64 0]) ?_ 1 _ rfl; (with_reducible skip); refine blk_put (cs := #[.int .u8 0, .int .i64 0, .int .i64 0, .int .u8 0, .int .i64 0, .int .i64 0, .int .i64 0]) ?_ 0 _ rfl; (with_reducible skip); exact BK209.out) hb); replace HB := Aside0.mk (below_step (by repeat (with_reducible first | exact HB.out | refine below_set ?_ GE209.out)) hb); (try clear hb); have hcz25_0 : w24.cell? ⟨gb197, 0, none⟩ = some (.int .i64 0) := (blk_cell BK197.out 0).trans rfl; have hcz25_1 : w24.cell? ⟨gb197, 1, none⟩ = some (.int .i64 0) := (blk_cell BK197.out 1).trans rfl; have hfz25_0 := blk_frozen BK197.out 0; have hfz25_1 := blk_frozen BK197.out 1))
    refine bodyPost_ret (results_ct rfl _ _ gb197 33 #[.int .i64 t210, .int .i64 t211] (0, 0) _ rfl (by (with_reducible skip); refine blk_put (cs := #[.int .i64 t210, .int .i64 0]) ?_ 1 _ rfl; (with_reducible skip); refine blk_put (cs := #[.int .i64 0, .int .i64 0]) ?_ 0 _ rfl; (with_reducible skip); exact BK197.out) Try.underlying33 rfl (by kernel_rfl)) rfl ?_
    exact ⟨by (rfl), by repeat (with_reducible first | exact HB.out | refine below_set ?_ GE197.out)⟩
  · rw [if_neg c4] at H
    have c4b0 : (t208 == 0) = false := beq_eq_false_iff_ne.mpr c4
    have c4b1 : (t208 != 0) = true := bne_iff_ne.mpr c4
    simp only [Option.some.injEq, Prod.mk.injEq] at H
    obtain ⟨rfl, rfl, rfl⟩ := H
    go_enter Try.func9, Try.ntmps9
    go_wp2_with (first | ((with_reducible refine gate_dst (N := 2) rfl ?_); refine box_event ?hg (N := 2) ?hd (cs := #[.int .u8 a0_0, .int .i64 a0_1, .int .i64 a0_2, .int .u8 a0_3, .int .i64 a0_4]) (t := 23) ?hr ?_; (case hd => rfl); (case hg => rfl); (case hr => (go_simp; done)); intro gb195 hg w26 hbox hb; have BK195 := Aside0.mk hbox; have GW195 := Aside0.mk ((by rw [hg]; exact (below_size HB.out) : w.heap.size ≤ gb195)); have GE195 := Aside0.mk ((by rw [hg]; exact (below_size HB.out) : w.heap.size ≤ gb195)); replace HB := Aside0.mk (below_step HB.out hb); clear hb hbox hg) | ((with_reducible refine gate_dst (N := 3) rfl ?_); refine box_event ?hg (N := 3) ?hd (cs := #[.int .i64 a1_0, .int .i64 a1_1]) (t := 33) ?hr ?_; (case hd => rfl); (case hg => rfl); (case hr => (go_simp; done)); intro gb196 hg w27 hbox hb; have BK196 := Aside0.mk hbox; have GW196 := Aside0.mk ((by rw [hg]; exact (below_size HB.out) : w.heap.size ≤ gb196)); have GE196 := Aside0.mk ((by rw [hg]; exact (below_size HB.out) : w.heap.size ≤ gb196)); have NB195_196 := Aside0.mk ((by rw [hg]; exact Nat.ne_of_lt (blk_lt BK195.out) : gb195 ≠ gb196)); have NB196_195 := Aside0.mk ((by rw [hg]; exact Nat.ne_of_gt (blk_lt BK195.out) : gb196 ≠ gb195)); replace BK195 := Aside0.mk (blk_below BK195.out hb); replace HB := Aside0.mk (below_step HB.out hb); clear hb hbox hg) | ((with_reducible refine gate_dst (N := 4) rfl ?_); refine box_event ?hg (N := 4) ?hd (cs := #[.int .i64 0, .int .i64 0]) (t := 33) ?hr ?_; (case hd => rfl); (case hg => rfl); (case hr => (go_simp; done)); intro gb197 hg w28 hbox hb; have BK197 := Aside0.mk hbox; have GW197 := Aside0.mk ((by rw [hg]; exact (below_size HB.out) : w.heap.size ≤ gb197)); have GE197 := Aside0.mk ((by rw [hg]; exact (below_size HB.out) : w.heap.size ≤ gb197)); have NB195_197 := Aside0.mk ((by rw [hg]; exact Nat.ne_of_lt (blk_lt BK195.out) : gb195 ≠ gb197)); have NB197_195 := Aside0.mk ((by rw [hg]; exact Nat.ne_of_gt (blk_lt BK195.out) : gb197 ≠ gb195)); have NB196_197 := Aside0.mk ((by rw [hg]; exact Nat.ne_of_lt (blk_lt BK196.out) : gb196 ≠ gb197)); have NB197_196 := Aside0.mk ((by rw [hg]; exact Nat.ne_of_gt (blk_lt BK196.out) : gb197 ≠ gb196)); replace BK195 := Aside0.mk (blk_below BK195.out hb); replace BK196 := Aside0.mk (blk_below BK196.out hb); replace HB := Aside0.mk (below_step HB.out hb); clear hb hbox hg; have hnb29 := NB195_196.out; have hnc29 := NB196_195.out; have hnb30 := NB195_197.out; have hnc30 := NB197_195.out; have hcz31_0 : w28.cell? ⟨gb195, 0, none⟩ = some (.int .u8 a0_0) := (blk_cell BK195.out 0).trans rfl; have hcz31_1 : w28.cell? ⟨gb195, 1, none⟩ = some (.int .i64 a0_1) := (blk_cell BK195.out 1).trans rfl; have hcz31_2 : w28.cell? ⟨gb195, 2, none⟩ = some (.int .i64 a0_2) := (blk_cell BK195.out 2).trans rfl; have hcz31_3 : w28.cell? ⟨gb195, 3, none⟩ = some (.int .u8 a0_3) := (blk_cell BK195.out 3).trans rfl; have hcz31_4 : w28.cell? ⟨gb195, 4, none⟩ = some (.int .i64 a0_4) := (blk_cell BK195.out 4).trans rfl; have hfz31_0 := blk_frozen BK195.out 0; have hfz31_1 := blk_frozen BK195.out 1; have hfz31_2 := blk_frozen BK195.out 2; have hfz31_3 := blk_frozen BK195.out 3; have hfz31_4 := blk_frozen BK195.out 4; have hnb32 := NB196_197.out; have hnc32 := NB197_196.out; have hcz33_0 : w28.cell? ⟨gb196, 0, none⟩ = some (.int .i64 a1_0) := (blk_cell BK196.out 0).trans rfl; have hcz33_1 : w28.cell? ⟨gb196, 1, none⟩ = some (.int .i64 a1_1) := (blk_cell BK196.out 1).trans rfl; have hfz33_0 := blk_frozen BK196.out 0; have hfz33_1 := blk_frozen BK196.out 1) | ((with_reducible refine gate_dst (N := 11) rfl ?_); refine Kd.R_lit k33 _ 33 ?hg (N := 11) ?hd (xs := ([(⟨a1_0, a1_1⟩ : S33)] : List (S33))) (inner := [.int .i64 a1_0, .int .i64 a1_1]) (ok := fun _ => True) (okp := fun _ => True) ?hr ?hp (fun _ hk => hk) trivial (Below.refl _ _) (Nat.le_refl _) (by simp) ?_; (case hd => rfl); (case hg => rfl); (case hr => (go_simp; done)); (case hp => exact (Reps.c2 (show Kd.M k33 _ _ _ (⟨a1_0, a1_1⟩ : S33) [.int .i64 a1_0, .int .i64 a1_1] from (k33_mkM _ _ _ (⟨a1_0, a1_1⟩ : S33) )) (Reps.none _ _))); intro v199 w34 ho35 hb hg_ hnew_; clear hg_ hnew_; (rw [← Ny198.out] at ho35); have HO200 := Aside0.mk (Kd.R_lower (Kd.R_newB (Kd.R_newB ho35 BK196.out) BK197.out) (below_size HB.out)); replace BK195 := Aside0.mk (blk_below BK195.out hb); replace BK196 := Aside0.mk (blk_below BK196.out hb); replace BK197 := Aside0.mk (blk_below BK197.out hb); replace HB := Aside0.mk (below_step HB.out hb); clear hb ho35; obtain ⟨Ao36, co36, eo36⟩ := Kd.R_slice HO200.out; subst eo36) | ((with_reducible refine gate_callee (f := 18) rfl ?_); refine goesL_ (some 12) rfl rfl Try.func18 (by kernel_rfl) rfl #[.agg #[.int .u8 a0_0, .int .i64 a0_1, .int .i64 a0_2, .int .u8 a0_3, .int .i64 a0_4], .slice Ao36 y198.length co36] rfl (by (try simp only [List.map_toArray, List.map_cons, List.map_nil]); (rfl)) ?_; (with_reducible refine (fold_of.calls k a0_0 a0_1 a0_2 a0_3 a0_4 _ _ y198 t201 t202 t203 t204 t205 t206 t207 t208 _ ?side1 ?side2 A3.out).mono ?_); (case side1 => repeat (exact (Kd.R_reads' HO200.out).2.2)); (case side2 => exact (Kd.R_reads' HO200.out).2.1); rintro e w37 ⟨rfl, hb⟩; refine ⟨_, rfl, ?_⟩; replace HO200 := Aside0.mk (Kd.R_below HO200.out hb); replace BK195 := Aside0.mk (blk_below BK195.out hb); replace BK196 := Aside0.mk (blk_below BK196.out hb); replace BK197 := Aside0.mk (blk_below BK197.out hb); replace HB := Aside0.mk (below_step HB.out hb); (try clear hb)) | ((with_reducible refine gate_dst (N := 6) rfl ?_); refine box_event ?hg (N := 6) ?hd (cs := #[.int .u8 0, .int .i64 0, .int .i64 0, .int .u8 0, .int .i64 0, .int .i64 0, .int .i64 0]) (t := 56) ?hr ?_; (case hd => rfl); (case hg => rfl); (case hr => (go_simp; done)); intro gb209 hg w38 hbox hb; have BK209 := Aside0.mk hbox; have GW209 := Aside0.mk ((by rw [hg]; exact (below_size HB.out) : w.heap.size ≤ gb209)); have GE209 := Aside0.mk ((by rw [hg]; exact (below_size HB.out) : w.heap.size ≤ gb209)); have NB195_209 := Aside0.mk ((by rw [hg]; exact Nat.ne_of_lt (blk_lt BK195.out) : gb195 ≠ gb209)); have NB209_195 := Aside0.mk ((by rw [hg]; exact Nat.ne_of_gt (blk_lt BK195.out) : gb209 ≠ gb195)); have NB196_209 := Aside0.mk ((by rw [hg]; exact Nat.ne_of_lt (blk_lt BK196.out) : gb196 ≠ gb209)); have NB209_196 := Aside0.mk ((by rw [hg]; exact Nat.ne_of_gt (blk_lt BK196.out) : gb209 ≠ gb196)); have NB197_209 := Aside0.mk ((by rw [hg]; exact Nat.ne_of_lt (blk_lt BK197.out) : gb197 ≠ gb209)); have NB209_197 := Aside0.mk ((by rw [hg]; exact Nat.ne_of_gt (blk_lt BK197.out) : gb209 ≠ gb197)); replace HO200 := Aside0.mk (Kd.R_below HO200.out hb); replace BK195 := Aside0.mk (blk_below BK195.out hb); replace BK196 := Aside0.mk (blk_below BK196.out hb); replace BK197 := Aside0.mk (blk_below BK197.out hb); replace HB := Aside0.mk (below_step HB.out hb); clear hb hbox hg; have hnb39 := NB209_195.out; have hnc39 := NB195_209.out; have hnb40 := NB209_196.out; have hnc40 := NB196_209.out; have hnb41 := NB209_197.out; have hnc41 := NB197_209.out; have hcz42_0 : w38.cell? ⟨gb209, 0, none⟩ = some (.int .u8 0) := (blk_cell BK209.out 0).trans rfl; have hcz42_1 : w38.cell? ⟨gb209, 1, none⟩ = some (.int .i64 0) := (blk_cell BK209.out 1).trans rfl; have hcz42_2 : w38.cell? ⟨gb209, 2, none⟩ = some (.int .i64 0) := (blk_cell BK209.out 2).trans rfl; have hcz42_3 : w38.cell? ⟨gb209, 3, none⟩ = some (.int .u8 0) := (blk_cell BK209.out 3).trans rfl; have hcz42_4 : w38.cell? ⟨gb209, 4, none⟩ = some (.int .i64 0) := (blk_cell BK209.out 4).trans rfl; have hcz42_5 : w38.cell? ⟨gb209, 5, none⟩ = some (.int .i64 0) := (blk_cell BK209.out 5).trans rfl; have hcz42_6 : w38.cell? ⟨gb209, 6, none⟩ = some (.int .i64 0) := (blk_cell BK209.out 6).trans rfl; have hfz42_0 := blk_frozen BK209.out 0; have hfz42_1 := blk_frozen BK209.out 1; have hfz42_2 := blk_frozen BK209.out 2; have hfz42_3 := blk_frozen BK209.out 3; have hfz42_4 := blk_frozen BK209.out 4; have hfz42_5 := blk_frozen BK209.out 5; have hfz42_6 := blk_frozen BK209.out 6; have hcz43_0 : w38.cell? ⟨gb197, 0, none⟩ = some (.int .i64 0) := (blk_cell BK197.out 0).trans rfl; have hcz43_1 : w38.cell? ⟨gb197, 1, none⟩ = some (.int .i64 0) := (blk_cell BK197.out 1).trans rfl; have hfz43_0 := blk_frozen BK197.out 0; have hfz43_1 := blk_frozen BK197.out 1))
    refine bodyPost_ret (results_ct rfl _ _ gb197 33 #[.int .i64 0, .int .i64 0] (0, 0) _ rfl (by (with_reducible skip); refine blk_put (cs := #[.int .i64 0, .int .i64 0]) ?_ 1 _ rfl; (with_reducible skip); refine blk_put (cs := #[.int .i64 0, .int .i64 0]) ?_ 0 _ rfl; (with_reducible skip); refine blk_far ?_ NB197_209.out _; (with_reducible skip); refine blk_far ?_ NB197_209.out _; (with_reducible skip); refine blk_far ?_ NB197_209.out _; (with_reducible skip); refine blk_far ?_ NB197_209.out _; (with_reducible skip); refine blk_far ?_ NB197_209.out _; (with_reducible skip); refine blk_far ?_ NB197_209.out _; (with_reducible skip); refine blk_far ?_ NB197_209.out _; (with_reducible skip); exact BK197.out) Try.underlying33 rfl (by kernel_rfl)) rfl ?_
    exact ⟨by (rfl), by repeat (with_reducible first | exact HB.out | refine below_set ?_ GE197.out | refine below_set ?_ GE209.out)⟩

/-! ### fold_glide: function 24 -/
def fold_glide.f (a0 : Bool) (a1 : Int) (a2 : Int) : Option ((Nat × Nat) × Bool × (Nat × Nat)) := if a0 = true then (some ((13830554455654793216, 0), true, (floatOfInt .f64 a1, floatOfInt .f64 a2))) else (some ((4607182418800017408, 0), true, (floatOfInt .f64 a2, floatOfInt .f64 a1)))
set_option maxHeartbeats 8000000 in
set_option maxRecDepth 100000 in
theorem fold_glide.calls (a0 : Bool) (a1 : Int) (a2 : Int) (r1 : (Nat × Nat)) (r2 : Bool) (r3 : (Nat × Nat)) (w : World) (h : fold_glide.f a0 a1 a2 = some (r1, r2, r3)) :
    Calls Try.prog 24 #[.bool a0, .int .i64 a1, .int .i64 a2] w fun e w' => e = .returned (.agg #[.complex .f64 r1.1 r1.2, .bool r2, .complex .f64 r3.1 r3.2]) ∧ Below w.heap.size w w' := by
  have hu45 := Try.underlying45
  have hcv3_66 := fun (n_ : Int) (W_ : World) => run_convert_int_float (P := Try.prog) W_ 3 66 .i64 .f64 n_ (by kernel_rfl) Try.underlying66
  have HB := Aside0.mk (Below.refl w.heap.size w)
  have H : (if a0 = true then (some ((13830554455654793216, 0), true, (floatOfInt .f64 a1, floatOfInt .f64 a2))) else (some ((4607182418800017408, 0), true, (floatOfInt .f64 a2, floatOfInt .f64 a1)))) = some (r1, r2, r3) := h
  clear h
  by_cases c4 : a0 = true
  · subst c4
    have H1 : (some ((13830554455654793216, 0), true, (floatOfInt .f64 a1, floatOfInt .f64 a2))) = some (r1, r2, r3) := by rw [if_pos rfl] at H; exact H
    clear H
    have H := H1
    clear H1
    simp only [Option.some.injEq, Prod.mk.injEq] at H
    obtain ⟨rfl, rfl, rfl⟩ := H
    go_enter Try.func24, Try.ntmps24
    go_wp2_with ((((with_reducible refine gate_dst (N := 6) rfl ?_); refine box_event ?hg (N := 6) ?hd (cs := #[.complex .f64 0 0, .bool false, .complex .f64 0 0]) (t := 45) ?hr ?_; (case hd => rfl); (case hg => rfl); (case hr => (go_simp; done)); intro gb213 hg w5 hbox hb; have BK213 := Aside0.mk hbox; have GW213 := Aside0.mk ((by rw [hg]; exact (below_size HB.out) : w.heap.size ≤ gb213)); have GE213 := Aside0.mk ((by rw [hg]; exact (below_size HB.out) : w.heap.size ≤ gb213)); replace HB := Aside0.mk (below_step HB.out hb); clear hb hbox hg; have hcz6_0 : w5.cell? ⟨gb213, 0, none⟩ = some (.complex .f64 0 0) := (blk_cell BK213.out 0).trans rfl; have hcz6_1 : w5.cell? ⟨gb213, 1, none⟩ = some (.bool false) := (blk_cell BK213.out 1).trans rfl; have hcz6_2 : w5.cell? ⟨gb213, 2, none⟩ = some (.complex .f64 0 0) := (blk_cell BK213.out 2).trans rfl; have hfz6_0 := blk_frozen BK213.out 0; have hfz6_1 := blk_frozen BK213.out 1; have hfz6_2 := blk_frozen BK213.out 2)))
    refine bodyPost_ret (results_cell_row rfl _ _ gb213 45 #[.complex .f64 13830554455654793216 0, .bool true, .complex .f64 (floatOfInt .f64 a1) (floatOfInt .f64 a2)] (0, 0) _ rfl (by (with_reducible skip); refine blk_put (cs := #[.complex .f64 13830554455654793216 0, .bool true, .complex .f64 0 0]) ?_ 2 _ rfl; (with_reducible skip); refine blk_put (cs := #[.complex .f64 13830554455654793216 0, .bool false, .complex .f64 0 0]) ?_ 1 _ rfl; (with_reducible skip); refine blk_put (cs := #[.complex .f64 0 0, .bool false, .complex .f64 0 0]) ?_ 0 _ rfl; (with_reducible skip); exact BK213.out) Try.underlying45 rfl (by kernel_rfl)) rfl ?_
    exact ⟨by (rfl), by repeat (with_reducible first | exact HB.out | refine below_set ?_ GE213.out)⟩
  · replace c4 := Bool.eq_false_iff.mpr c4
    subst c4
    have H1 : (some ((4607182418800017408, 0), true, (floatOfInt .f64 a2, floatOfInt .f64 a1))) = some (r1, r2, r3) := by rw [if_neg (show ¬ (false = true) by decide)] at H; exact H
    clear H
    have H := H1
    clear H1
    simp only [Option.some.injEq, Prod.mk.injEq] at H
    obtain ⟨rfl, rfl, rfl⟩ := H
    go_enter Try.func24, Try.ntmps24
    go_wp2_with ((((with_reducible refine gate_dst (N := 6) rfl ?_); refine box_event ?hg (N := 6) ?hd (cs := #[.complex .f64 0 0, .bool false, .complex .f64 0 0]) (t := 45) ?hr ?_; (case hd => rfl); (case hg => rfl); (case hr => (go_simp; done)); intro gb213 hg w7 hbox hb; have BK213 := Aside0.mk hbox; have GW213 := Aside0.mk ((by rw [hg]; exact (below_size HB.out) : w.heap.size ≤ gb213)); have GE213 := Aside0.mk ((by rw [hg]; exact (below_size HB.out) : w.heap.size ≤ gb213)); replace HB := Aside0.mk (below_step HB.out hb); clear hb hbox hg; have hcz8_0 : w7.cell? ⟨gb213, 0, none⟩ = some (.complex .f64 0 0) := (blk_cell BK213.out 0).trans rfl; have hcz8_1 : w7.cell? ⟨gb213, 1, none⟩ = some (.bool false) := (blk_cell BK213.out 1).trans rfl; have hcz8_2 : w7.cell? ⟨gb213, 2, none⟩ = some (.complex .f64 0 0) := (blk_cell BK213.out 2).trans rfl; have hfz8_0 := blk_frozen BK213.out 0; have hfz8_1 := blk_frozen BK213.out 1; have hfz8_2 := blk_frozen BK213.out 2)))
    refine bodyPost_ret (results_cell_row rfl _ _ gb213 45 #[.complex .f64 4607182418800017408 0, .bool true, .complex .f64 (floatOfInt .f64 a2) (floatOfInt .f64 a1)] (0, 0) _ rfl (by (with_reducible skip); refine blk_put (cs := #[.complex .f64 4607182418800017408 0, .bool true, .complex .f64 0 0]) ?_ 2 _ rfl; (with_reducible skip); refine blk_put (cs := #[.complex .f64 4607182418800017408 0, .bool false, .complex .f64 0 0]) ?_ 1 _ rfl; (with_reducible skip); refine blk_put (cs := #[.complex .f64 0 0, .bool false, .complex .f64 0 0]) ?_ 0 _ rfl; (with_reducible skip); exact BK213.out) Try.underlying45 rfl (by kernel_rfl)) rfl ?_
    exact ⟨by (rfl), by repeat (with_reducible first | exact HB.out | refine below_set ?_ GE213.out)⟩

end Go.Proofs.Ytfgoplgdhnjkdaa.Be
