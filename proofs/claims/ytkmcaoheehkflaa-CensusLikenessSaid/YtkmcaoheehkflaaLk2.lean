/- The machine's side of Go functions of this seat: for each a Lean function and a proof that the call comes to what it says. Written by a program of this session (wip/xp) for this claim. -/
import Derived.Test.YtkmcaoheehkflaaLk0
import Derived.Test.YtkmcaoheehkflaaLk1
import Derived.Test.YtkmcaoheehkflaaLkg
namespace Go.Proofs.Ytkmcaoheehkflaa.Lk
open Go.RowKit Go.Proofs.YtkmcaoheehkflaaW.PrintWords Go.Proofs.YtkmcaoheehkflaaW.PrintLast Go.Proofs.YtkmcaoheehkflaaW.PrintMore
attribute [local go_sem] max2_int min2_int max_two min_two max_three min_three max_four min_four   -- for this text's walks alone
open Go.Proofs.YtkmcaoheehkflaaW.XWords
attribute [local go_sem high] binOp_fEq binOp_fNe binOp_fLt binOp_fLe binOp_fGt binOp_fGe binOp_cEq binOp_cNe unOp_fNeg unOp_cNeg equalIn_f64 equalIn_c128
attribute [local go_sem] run_real run_imag run_complex run_store_f64 run_store_c128 run_store_fn
set_option linter.unusedVariables false
set_option linter.unusedSimpArgs false

/-! ### census_Likeness: function 7 -/
mutual
def census_Likeness.l0 : Nat → List Nat → List Nat → Nat → Nat → Int → Int → Option (Nat × Int)
  | 0, _, _, _, _, _, _ => none
  | k + 1, x0, x1, x6, x7, x22, x23 => if x23 < x22 then (if 0 ≤ x23 then (if x23 < (x0.length : Int) then ((census_usual.f (rd_F64 x0 x23)).bind fun t126 => (if t126 = true then (if x23 < (x1.length : Int) then ((census_usual.f (rd_F64 x1 x23)).bind fun t128 => (if t128 = true then ((fAdd x6 (rd_F64 x0 x23)).bind fun t130 => ((fAdd x7 (rd_F64 x1 x23)).bind fun t132 => (census_Likeness.l0 k x0 x1 t130 t132 x22 (wrap64 (x23 + 1))))) else (some (0, 2)))) else (none)) else (some (0, 2)))) else (none)) else (none)) else (if (fEq (floatOfInt .f64 (x0.length : Int)) 0) = true then (some (0, 0)) else ((fQuo x6 (floatOfInt .f64 (x0.length : Int))).bind fun t133 => ((fQuo x7 (floatOfInt .f64 (x0.length : Int))).bind fun t134 => (census_Likeness.l1 k x0 x1 t133 t134 0 0 0 (x0.length : Int) 0))))
def census_Likeness.l1 : Nat → List Nat → List Nat → Nat → Nat → Nat → Nat → Nat → Int → Int → Option (Nat × Int)
  | 0, _, _, _, _, _, _, _, _, _ => none
  | k + 1, x0, x1, x6, x7, x10, x11, x12, x65, x66 => if x66 < x65 then (if 0 ≤ x66 then (if x66 < (x0.length : Int) then ((fSub (rd_F64 x0 x66) x6).bind fun t136 => (if x66 < (x1.length : Int) then ((fSub (rd_F64 x1 x66) x7).bind fun t138 => ((fMul t136 t138).bind fun t139 => ((fAdd x10 t139).bind fun t140 => ((fMul t136 t136).bind fun t141 => ((fAdd x11 t141).bind fun t142 => ((fMul t138 t138).bind fun t143 => ((fAdd x12 t143).bind fun t144 => (census_Likeness.l1 k x0 x1 x6 x7 t140 t142 t144 x65 (wrap64 (x66 + 1)))))))))) else (none))) else (none)) else (none)) else (if (fEq x11 0) = true then (census_Likeness.j2 k x10 x11 x12 true) else (census_Likeness.j2 k x10 x11 x12 (fEq x12 0)))
def census_Likeness.j2 : Nat → Nat → Nat → Nat → Bool → Option (Nat × Int)
  | 0, _, _, _, _ => none
  | k + 1, x10, x11, x12, x102 => if x102 = true then (some (0, 0)) else ((math_Sqrt.f x11).bind fun t145 => ((math_Sqrt.f x12).bind fun t146 => ((fMul t145 t146).bind fun t147 => ((fQuo x10 t147).bind fun t148 => ((fMax 13830554455654793216 t148).bind fun t149 => ((fMin 4607182418800017408 t149).bind fun t150 => (some (t150, 0))))))))
end
def census_Likeness.f (k : Nat) (l0 : List Nat) (l1 : List Nat) : Option (Nat × Int) := if (l0.length : Int) = (l1.length : Int) then (census_Likeness.l0 k l0 l1 0 0 (l0.length : Int) 0) else (some (0, 21))
theorem census_Likeness.mono_l : ∀ k, (∀ y0 y1 y2 y3 y4 y5, LeO (census_Likeness.l0 k y0 y1 y2 y3 y4 y5) (census_Likeness.l0 (k + 1) y0 y1 y2 y3 y4 y5)) ∧ (∀ y0 y1 y2 y3 y4 y5 y6 y7 y8, LeO (census_Likeness.l1 k y0 y1 y2 y3 y4 y5 y6 y7 y8) (census_Likeness.l1 (k + 1) y0 y1 y2 y3 y4 y5 y6 y7 y8)) ∧ (∀ y0 y1 y2 y3, LeO (census_Likeness.j2 k y0 y1 y2 y3) (census_Likeness.j2 (k + 1) y0 y1 y2 y3))
  | 0 => ⟨fun _ _ _ _ _ _ r h => by simp [census_Likeness.l0] at h, fun _ _ _ _ _ _ _ _ _ r h => by simp [census_Likeness.l1] at h, fun _ _ _ _ r h => by simp [census_Likeness.j2] at h⟩
  | k + 1 => by
    obtain ⟨ih0, ih1, ih2⟩ := census_Likeness.mono_l k
    refine ⟨?_, ?_, ?_⟩
    · intro y0 y1 y2 y3 y4 y5
      unfold census_Likeness.l0
      repeat' first
      | (with_reducible exact ih0 _ _ _ _ _ _)
      | (with_reducible exact ih1 _ _ _ _ _ _ _ _ _)
      | (with_reducible exact ih2 _ _ _ _)
      | (with_reducible exact LeO.refl _)
      | (with_reducible exact LeO.none _)
      | (with_reducible refine LeO.ite ?_ ?_)
      | (with_reducible refine LeO.bind ?_ (fun _ => ?_))
      | exact ih0 _ _ _ _ _ _
      | exact ih1 _ _ _ _ _ _ _ _ _
      | exact ih2 _ _ _ _
      | exact LeO.none _
      | refine LeO.ite ?_ ?_
      | refine LeO.bind ?_ (fun _ => ?_)
    · intro y0 y1 y2 y3 y4 y5 y6 y7 y8
      unfold census_Likeness.l1
      repeat' first
      | (with_reducible exact ih0 _ _ _ _ _ _)
      | (with_reducible exact ih1 _ _ _ _ _ _ _ _ _)
      | (with_reducible exact ih2 _ _ _ _)
      | (with_reducible exact LeO.refl _)
      | (with_reducible exact LeO.none _)
      | (with_reducible refine LeO.ite ?_ ?_)
      | (with_reducible refine LeO.bind ?_ (fun _ => ?_))
      | exact ih0 _ _ _ _ _ _
      | exact ih1 _ _ _ _ _ _ _ _ _
      | exact ih2 _ _ _ _
      | exact LeO.none _
      | refine LeO.ite ?_ ?_
      | refine LeO.bind ?_ (fun _ => ?_)
    · intro y0 y1 y2 y3
      unfold census_Likeness.j2
      repeat' first
      | (with_reducible exact ih0 _ _ _ _ _ _)
      | (with_reducible exact ih1 _ _ _ _ _ _ _ _ _)
      | (with_reducible exact ih2 _ _ _ _)
      | (with_reducible exact LeO.refl _)
      | (with_reducible exact LeO.none _)
      | (with_reducible refine LeO.ite ?_ ?_)
      | (with_reducible refine LeO.bind ?_ (fun _ => ?_))
      | exact ih0 _ _ _ _ _ _
      | exact ih1 _ _ _ _ _ _ _ _ _
      | exact ih2 _ _ _ _
      | exact LeO.none _
      | refine LeO.ite ?_ ?_
      | refine LeO.bind ?_ (fun _ => ?_)
theorem census_Likeness.mono : ∀ a0 a1 k, LeO (census_Likeness.f k a0 a1) (census_Likeness.f (k + 1) a0 a1) := by
  intro a0 a1 k
  obtain ⟨ih0, ih1, ih2⟩ := census_Likeness.mono_l k
  unfold census_Likeness.f
  repeat' first
      | (with_reducible exact ih0 _ _ _ _ _ _)
      | (with_reducible exact ih1 _ _ _ _ _ _ _ _ _)
      | (with_reducible exact ih2 _ _ _ _)
      | (with_reducible exact LeO.refl _)
      | (with_reducible exact LeO.none _)
      | (with_reducible refine LeO.ite ?_ ?_)
      | (with_reducible refine LeO.bind ?_ (fun _ => ?_))
      | exact ih0 _ _ _ _ _ _
      | exact ih1 _ _ _ _ _ _ _ _ _
      | exact ih2 _ _ _ _
      | exact LeO.none _
      | refine LeO.ite ?_ ?_
      | refine LeO.bind ?_ (fun _ => ?_)
set_option maxHeartbeats 8000000 in
set_option maxRecDepth 100000 in
theorem census_Likeness.calls (k : Nat) (A0 : Option Addr) (c0 : Nat) (l0 : List Nat) (A1 : Option Addr) (c1 : Nat) (l1 : List Nat) (r1 : Nat) (r2 : Int) (w : World) (hr0 : Kd.C kF64 w A0 l0.length l0) (hc0 : l0.length ≤ c0) (hr1 : Kd.C kF64 w A1 l1.length l1) (hc1 : l1.length ≤ c1) (h : census_Likeness.f k l0 l1 = some (r1, r2)) :
    Calls Try.prog 7 #[.slice A0 l0.length c0, .slice A1 l1.length c1] w fun e w' => e = .returned (.tuple #[.float .f64 r1, .int .i64 r2]) ∧ Below w.heap.size w w' := by
  have hcv3_23 := fun (n_ : Int) (W_ : World) => run_convert_int_float (P := Try.prog) W_ 3 23 .i64 .f64 n_ (by kernel_rfl) Try.underlying23
  have HR0 := Aside0.mk hr0
  have HC0 := Aside0.mk hc0
  clear hr0 hc0
  have HR1 := Aside0.mk hr1
  have HC1 := Aside0.mk hc1
  clear hr1 hc1
  have HB := Aside0.mk (Below.refl w.heap.size w)
  have H : (if (l0.length : Int) = (l1.length : Int) then (census_Likeness.l0 k l0 l1 0 0 (l0.length : Int) 0) else (some (0, 21))) = some (r1, r2) := h
  clear h
  by_cases c3 : (l0.length : Int) = (l1.length : Int)
  · rw [if_pos c3] at H
    have c3b0 : ((l0.length : Int) == (l1.length : Int)) = true := beq_iff_eq.mpr c3
    have c3b1 : ((l0.length : Int) != (l1.length : Int)) = false := bne_eq_false_iff_eq.mpr c3
    have c3b2 : (l0.length == l1.length) = true := by first | simpa using c3 | (simp at c3 ⊢; omega)
    clear c3
    have H' := Aside0.mk H
    clear H
    go_enter Try.func7, Try.ntmps7
    go_wp2
    repeat (go_quiet (fail); try go_wp2)
    go_loopg [6, 7, 23] k (fun kq v6 v7 v23 w' => ∃ (x6_1 : Nat) (x7_1 : Nat) (x23_1 : Int), v6 = .float .f64 x6_1 ∧ v7 = .float .f64 x7_1 ∧ v23 = .int .i64 x23_1 ∧ Aside0 (census_Likeness.l0 kq l0 l1 x6_1 x7_1 (l0.length : Int) x23_1 = some (r1, r2)) ∧ Aside0 (kq ≤ k) ∧ Aside0 (Below w.heap.size w w'))
    case atStart => exact ⟨(0), (0), (0), (by first | rfl | (simp; done) | (simp [*]; done)), (by first | rfl | (simp; done) | (simp [*]; done)), (by first | rfl | (simp; done) | (simp [*]; done)), H', ⟨Nat.le_refl _⟩, ⟨by repeat (first | (with_reducible first | exact HB.out | apply below_alloc | apply pw_below_drewN | apply below_drew1) | exact HB.out)⟩⟩
    case round =>
      clear H'
      try clear c1
      try clear p2
      try clear c3
      try clear c3b0
      try clear c3b1
      try clear c3b2
      obtain ⟨x6_1, x7_1, x23_1, rfl, rfl, rfl, HA, HK1, HB⟩ := hrel
      cases gk with
      | zero => exact absurd HA.out (by simp [census_Likeness.l0])
      | succ k1 =>
        have H := HA.out
        clear HA
        simp only [census_Likeness.l0] at H
        by_cases c4 : x23_1 < (l0.length : Int)
        · rw [if_pos c4] at H
          have c4b0 : decide (x23_1 < (l0.length : Int)) = true := decide_eq_true c4
          clear c4
          by_cases c5 : 0 ≤ x23_1
          · rw [if_pos c5] at H
            have c5b0 : decide (0 ≤ x23_1) = true := decide_eq_true c5
            clear c5
            by_cases c6 : x23_1 < (l0.length : Int)
            · rw [if_pos c6] at H
              have c6b0 : decide (x23_1 < (l0.length : Int)) = true := decide_eq_true c6
              clear c6
              replace H := Option.bind_eq_some_iff.mp H
              obtain ⟨t126, A70, H⟩ := H
              replace H : (if t126 = true then (if x23_1 < (l1.length : Int) then ((census_usual.f (rd_F64 l1 x23_1)).bind fun t128 => (if t128 = true then ((fAdd x6_1 (rd_F64 l0 x23_1)).bind fun t130 => ((fAdd x7_1 (rd_F64 l1 x23_1)).bind fun t132 => (census_Likeness.l0 k1 l0 l1 t130 t132 (l0.length : Int) (wrap64 (x23_1 + 1))))) else (some (0, 2)))) else (none)) else (some (0, 2))) = some (r1, r2) := H
              have A7 := Aside0.mk A70
              clear A70
              by_cases c8 : t126 = true
              · subst c8
                have H1 : (if x23_1 < (l1.length : Int) then ((census_usual.f (rd_F64 l1 x23_1)).bind fun t128 => (if t128 = true then ((fAdd x6_1 (rd_F64 l0 x23_1)).bind fun t130 => ((fAdd x7_1 (rd_F64 l1 x23_1)).bind fun t132 => (census_Likeness.l0 k1 l0 l1 t130 t132 (l0.length : Int) (wrap64 (x23_1 + 1))))) else (some (0, 2)))) else (none)) = some (r1, r2) := by rw [if_pos rfl] at H; exact H
                clear H
                have H := H1
                clear H1
                by_cases c9 : x23_1 < (l1.length : Int)
                · rw [if_pos c9] at H
                  have c9b0 : decide (x23_1 < (l1.length : Int)) = true := decide_eq_true c9
                  clear c9
                  replace H := Option.bind_eq_some_iff.mp H
                  obtain ⟨t128, A100, H⟩ := H
                  replace H : (if t128 = true then ((fAdd x6_1 (rd_F64 l0 x23_1)).bind fun t130 => ((fAdd x7_1 (rd_F64 l1 x23_1)).bind fun t132 => (census_Likeness.l0 k1 l0 l1 t130 t132 (l0.length : Int) (wrap64 (x23_1 + 1))))) else (some (0, 2))) = some (r1, r2) := H
                  have A10 := Aside0.mk A100
                  clear A100
                  by_cases c11 : t128 = true
                  · subst c11
                    have H1 : ((fAdd x6_1 (rd_F64 l0 x23_1)).bind fun t130 => ((fAdd x7_1 (rd_F64 l1 x23_1)).bind fun t132 => (census_Likeness.l0 k1 l0 l1 t130 t132 (l0.length : Int) (wrap64 (x23_1 + 1))))) = some (r1, r2) := by rw [if_pos rfl] at H; exact H
                    clear H
                    have H := H1
                    clear H1
                    replace H := Option.bind_eq_some_iff.mp H
                    obtain ⟨t130, A120, H⟩ := H
                    replace H : ((fAdd x7_1 (rd_F64 l1 x23_1)).bind fun t132 => (census_Likeness.l0 k1 l0 l1 t130 t132 (l0.length : Int) (wrap64 (x23_1 + 1)))) = some (r1, r2) := H
                    have A12f := fun (t_ : TypeId) (W_ : World) => run_fAdd (P := Try.prog) A120 t_ W_
                    have A12 := Aside0.mk A120
                    clear A120
                    replace H := Option.bind_eq_some_iff.mp H
                    obtain ⟨t132, A130, H⟩ := H
                    replace H : (census_Likeness.l0 k1 l0 l1 t130 t132 (l0.length : Int) (wrap64 (x23_1 + 1))) = some (r1, r2) := H
                    have A13f := fun (t_ : TypeId) (W_ : World) => run_fAdd (P := Try.prog) A130 t_ W_
                    have A13 := Aside0.mk A130
                    clear A130
                    have H' := Aside0.mk H
                    clear H
                    have p125 : 0 ≤ (x23_1 : Int) := of_decide_eq_true (by first | (with_reducible assumption) | assumption)
                    have q125 : x23_1 < (l0.length : Int) := of_decide_eq_true (by first | (with_reducible assumption) | assumption)
                    obtain ⟨ad125, e125, hx125_0⟩ := at_F64 HR0.out x23_1 p125 q125
                    cases e125
                    replace hx125_0 := (HB.out.cell (World.block_lt_of_cell? w _ hx125_0)).trans hx125_0
                    replace p125 := eq_true p125
                    replace q125 := eq_true q125
                    go_wp2_with (first | (go_at_call 18; (with_reducible refine (census_usual.calls (rd_F64 l0 x23_1) true _ A7.out).mono ?_); rintro e w' ⟨rfl, ⟨nd, rfl⟩⟩; (try first | exact ⟨rfl, _, World.drewN_drewN _ _ _⟩ | exact ⟨rfl, _, Eq.trans (World.drewN_drewN _ _ _) (congrArg (World.drewN _) (Nat.add_assoc _ _ _))⟩); have p127 : 0 ≤ (x23_1 : Int) := of_decide_eq_true (by first | (with_reducible assumption) | assumption); have q127 : x23_1 < (l1.length : Int) := of_decide_eq_true (by first | (with_reducible assumption) | assumption); obtain ⟨ad127, e127, hx127_0⟩ := at_F64 HR1.out x23_1 p127 q127; cases e127; replace hx127_0 := (HB.out.cell (World.block_lt_of_cell? w _ hx127_0)).trans hx127_0; replace p127 := eq_true p127; replace q127 := eq_true q127) | (go_at_call 18; (with_reducible refine (census_usual.calls (rd_F64 l1 x23_1) true _ A10.out).mono ?_); rintro e w' ⟨rfl, ⟨nd, rfl⟩⟩; (try first | exact ⟨rfl, _, World.drewN_drewN _ _ _⟩ | exact ⟨rfl, _, Eq.trans (World.drewN_drewN _ _ _) (congrArg (World.drewN _) (Nat.add_assoc _ _ _))⟩); have p129 : 0 ≤ (x23_1 : Int) := of_decide_eq_true (by first | (with_reducible assumption) | assumption); have q129 : x23_1 < (l0.length : Int) := of_decide_eq_true (by first | (with_reducible assumption) | assumption); obtain ⟨ad129, e129, hx129_0⟩ := at_F64 HR0.out x23_1 p129 q129; obtain rfl : ad125 = ad129 := (by injection e129); replace hx129_0 := (HB.out.cell (World.block_lt_of_cell? w _ hx129_0)).trans hx129_0; replace p129 := eq_true p129; replace q129 := eq_true q129; have p131 : 0 ≤ (x23_1 : Int) := of_decide_eq_true (by first | (with_reducible assumption) | assumption); have q131 : x23_1 < (l1.length : Int) := of_decide_eq_true (by first | (with_reducible assumption) | assumption); obtain ⟨ad131, e131, hx131_0⟩ := at_F64 HR1.out x23_1 p131 q131; obtain rfl : ad127 = ad131 := (by injection e131); replace hx131_0 := (HB.out.cell (World.block_lt_of_cell? w _ hx131_0)).trans hx131_0; replace p131 := eq_true p131; replace q131 := eq_true q131))
                    repeat (go_quiet (first | (go_at_call 18; (with_reducible refine (census_usual.calls (rd_F64 l0 x23_1) true _ A7.out).mono ?_); rintro e w' ⟨rfl, ⟨nd, rfl⟩⟩; (try first | exact ⟨rfl, _, World.drewN_drewN _ _ _⟩ | exact ⟨rfl, _, Eq.trans (World.drewN_drewN _ _ _) (congrArg (World.drewN _) (Nat.add_assoc _ _ _))⟩); have p127 : 0 ≤ (x23_1 : Int) := of_decide_eq_true (by first | (with_reducible assumption) | assumption); have q127 : x23_1 < (l1.length : Int) := of_decide_eq_true (by first | (with_reducible assumption) | assumption); obtain ⟨ad127, e127, hx127_0⟩ := at_F64 HR1.out x23_1 p127 q127; cases e127; replace hx127_0 := (HB.out.cell (World.block_lt_of_cell? w _ hx127_0)).trans hx127_0; replace p127 := eq_true p127; replace q127 := eq_true q127) | (go_at_call 18; (with_reducible refine (census_usual.calls (rd_F64 l1 x23_1) true _ A10.out).mono ?_); rintro e w' ⟨rfl, ⟨nd, rfl⟩⟩; (try first | exact ⟨rfl, _, World.drewN_drewN _ _ _⟩ | exact ⟨rfl, _, Eq.trans (World.drewN_drewN _ _ _) (congrArg (World.drewN _) (Nat.add_assoc _ _ _))⟩); have p129 : 0 ≤ (x23_1 : Int) := of_decide_eq_true (by first | (with_reducible assumption) | assumption); have q129 : x23_1 < (l0.length : Int) := of_decide_eq_true (by first | (with_reducible assumption) | assumption); obtain ⟨ad129, e129, hx129_0⟩ := at_F64 HR0.out x23_1 p129 q129; obtain rfl : ad125 = ad129 := (by injection e129); replace hx129_0 := (HB.out.cell (World.block_lt_of_cell? w _ hx129_0)).trans hx129_0; replace p129 := eq_true p129; replace q129 := eq_true q129; have p131 : 0 ≤ (x23_1 : Int) := of_decide_eq_true (by first | (with_reducible assumption) | assumption); have q131 : x23_1 < (l1.length : Int) := of_decide_eq_true (by first | (with_reducible assumption) | assumption); obtain ⟨ad131, e131, hx131_0⟩ := at_F64 HR1.out x23_1 p131 q131; obtain rfl : ad127 = ad131 := (by injection e131); replace hx131_0 := (HB.out.cell (World.block_lt_of_cell? w _ hx131_0)).trans hx131_0; replace p131 := eq_true p131; replace q131 := eq_true q131)); try go_wp2_with (first | (go_at_call 18; (with_reducible refine (census_usual.calls (rd_F64 l0 x23_1) true _ A7.out).mono ?_); rintro e w' ⟨rfl, ⟨nd, rfl⟩⟩; (try first | exact ⟨rfl, _, World.drewN_drewN _ _ _⟩ | exact ⟨rfl, _, Eq.trans (World.drewN_drewN _ _ _) (congrArg (World.drewN _) (Nat.add_assoc _ _ _))⟩); have p127 : 0 ≤ (x23_1 : Int) := of_decide_eq_true (by first | (with_reducible assumption) | assumption); have q127 : x23_1 < (l1.length : Int) := of_decide_eq_true (by first | (with_reducible assumption) | assumption); obtain ⟨ad127, e127, hx127_0⟩ := at_F64 HR1.out x23_1 p127 q127; cases e127; replace hx127_0 := (HB.out.cell (World.block_lt_of_cell? w _ hx127_0)).trans hx127_0; replace p127 := eq_true p127; replace q127 := eq_true q127) | (go_at_call 18; (with_reducible refine (census_usual.calls (rd_F64 l1 x23_1) true _ A10.out).mono ?_); rintro e w' ⟨rfl, ⟨nd, rfl⟩⟩; (try first | exact ⟨rfl, _, World.drewN_drewN _ _ _⟩ | exact ⟨rfl, _, Eq.trans (World.drewN_drewN _ _ _) (congrArg (World.drewN _) (Nat.add_assoc _ _ _))⟩); have p129 : 0 ≤ (x23_1 : Int) := of_decide_eq_true (by first | (with_reducible assumption) | assumption); have q129 : x23_1 < (l0.length : Int) := of_decide_eq_true (by first | (with_reducible assumption) | assumption); obtain ⟨ad129, e129, hx129_0⟩ := at_F64 HR0.out x23_1 p129 q129; obtain rfl : ad125 = ad129 := (by injection e129); replace hx129_0 := (HB.out.cell (World.block_lt_of_cell? w _ hx129_0)).trans hx129_0; replace p129 := eq_true p129; replace q129 := eq_true q129; have p131 : 0 ≤ (x23_1 : Int) := of_decide_eq_true (by first | (with_reducible assumption) | assumption); have q131 : x23_1 < (l1.length : Int) := of_decide_eq_true (by first | (with_reducible assumption) | assumption); obtain ⟨ad131, e131, hx131_0⟩ := at_F64 HR1.out x23_1 p131 q131; obtain rfl : ad127 = ad131 := (by injection e131); replace hx131_0 := (HB.out.cell (World.block_lt_of_cell? w _ hx131_0)).trans hx131_0; replace p131 := eq_true p131; replace q131 := eq_true q131)))
                    go_roundg k1
                    case measure => have := HK1.out; omega
                    case rel => exact ⟨(t130), (t132), (wrap64 (x23_1 + 1)), (by first | rfl | (simp; done) | (simp [*]; done)), (by first | rfl | (simp; done) | (simp [*]; done)), (by first | rfl | (simp; done) | (simp [*]; done)), H', ⟨by have := HK1.out; omega⟩, ⟨by repeat (first | (with_reducible first | exact HB.out | apply below_alloc | apply pw_below_drewN | apply below_drew1) | exact HB.out)⟩⟩
                  · replace c11 := Bool.eq_false_iff.mpr c11
                    subst c11
                    have H1 : (some (0, 2)) = some (r1, r2) := by rw [if_neg (show ¬ (false = true) by decide)] at H; exact H
                    clear H
                    have H := H1
                    clear H1
                    simp only [Option.some.injEq, Prod.mk.injEq] at H
                    obtain ⟨rfl, rfl⟩ := H
                    have p125 : 0 ≤ (x23_1 : Int) := of_decide_eq_true (by first | (with_reducible assumption) | assumption)
                    have q125 : x23_1 < (l0.length : Int) := of_decide_eq_true (by first | (with_reducible assumption) | assumption)
                    obtain ⟨ad125, e125, hx125_0⟩ := at_F64 HR0.out x23_1 p125 q125
                    cases e125
                    replace hx125_0 := (HB.out.cell (World.block_lt_of_cell? w _ hx125_0)).trans hx125_0
                    replace p125 := eq_true p125
                    replace q125 := eq_true q125
                    go_wp2_with (first | (go_at_call 18; (with_reducible refine (census_usual.calls (rd_F64 l0 x23_1) true _ A7.out).mono ?_); rintro e w' ⟨rfl, ⟨nd, rfl⟩⟩; (try first | exact ⟨rfl, _, World.drewN_drewN _ _ _⟩ | exact ⟨rfl, _, Eq.trans (World.drewN_drewN _ _ _) (congrArg (World.drewN _) (Nat.add_assoc _ _ _))⟩); have p127 : 0 ≤ (x23_1 : Int) := of_decide_eq_true (by first | (with_reducible assumption) | assumption); have q127 : x23_1 < (l1.length : Int) := of_decide_eq_true (by first | (with_reducible assumption) | assumption); obtain ⟨ad127, e127, hx127_0⟩ := at_F64 HR1.out x23_1 p127 q127; cases e127; replace hx127_0 := (HB.out.cell (World.block_lt_of_cell? w _ hx127_0)).trans hx127_0; replace p127 := eq_true p127; replace q127 := eq_true q127) | (go_at_call 18; (with_reducible refine (census_usual.calls (rd_F64 l1 x23_1) false _ A10.out).mono ?_); rintro e w' ⟨rfl, ⟨nd, rfl⟩⟩; (try first | exact ⟨rfl, _, World.drewN_drewN _ _ _⟩ | exact ⟨rfl, _, Eq.trans (World.drewN_drewN _ _ _) (congrArg (World.drewN _) (Nat.add_assoc _ _ _))⟩)))
                    repeat (go_quiet (first | (go_at_call 18; (with_reducible refine (census_usual.calls (rd_F64 l0 x23_1) true _ A7.out).mono ?_); rintro e w' ⟨rfl, ⟨nd, rfl⟩⟩; (try first | exact ⟨rfl, _, World.drewN_drewN _ _ _⟩ | exact ⟨rfl, _, Eq.trans (World.drewN_drewN _ _ _) (congrArg (World.drewN _) (Nat.add_assoc _ _ _))⟩); have p127 : 0 ≤ (x23_1 : Int) := of_decide_eq_true (by first | (with_reducible assumption) | assumption); have q127 : x23_1 < (l1.length : Int) := of_decide_eq_true (by first | (with_reducible assumption) | assumption); obtain ⟨ad127, e127, hx127_0⟩ := at_F64 HR1.out x23_1 p127 q127; cases e127; replace hx127_0 := (HB.out.cell (World.block_lt_of_cell? w _ hx127_0)).trans hx127_0; replace p127 := eq_true p127; replace q127 := eq_true q127) | (go_at_call 18; (with_reducible refine (census_usual.calls (rd_F64 l1 x23_1) false _ A10.out).mono ?_); rintro e w' ⟨rfl, ⟨nd, rfl⟩⟩; (try first | exact ⟨rfl, _, World.drewN_drewN _ _ _⟩ | exact ⟨rfl, _, Eq.trans (World.drewN_drewN _ _ _) (congrArg (World.drewN _) (Nat.add_assoc _ _ _))⟩))); try go_wp2_with (first | (go_at_call 18; (with_reducible refine (census_usual.calls (rd_F64 l0 x23_1) true _ A7.out).mono ?_); rintro e w' ⟨rfl, ⟨nd, rfl⟩⟩; (try first | exact ⟨rfl, _, World.drewN_drewN _ _ _⟩ | exact ⟨rfl, _, Eq.trans (World.drewN_drewN _ _ _) (congrArg (World.drewN _) (Nat.add_assoc _ _ _))⟩); have p127 : 0 ≤ (x23_1 : Int) := of_decide_eq_true (by first | (with_reducible assumption) | assumption); have q127 : x23_1 < (l1.length : Int) := of_decide_eq_true (by first | (with_reducible assumption) | assumption); obtain ⟨ad127, e127, hx127_0⟩ := at_F64 HR1.out x23_1 p127 q127; cases e127; replace hx127_0 := (HB.out.cell (World.block_lt_of_cell? w _ hx127_0)).trans hx127_0; replace p127 := eq_true p127; replace q127 := eq_true q127) | (go_at_call 18; (with_reducible refine (census_usual.calls (rd_F64 l1 x23_1) false _ A10.out).mono ?_); rintro e w' ⟨rfl, ⟨nd, rfl⟩⟩; (try first | exact ⟨rfl, _, World.drewN_drewN _ _ _⟩ | exact ⟨rfl, _, Eq.trans (World.drewN_drewN _ _ _) (congrArg (World.drewN _) (Nat.add_assoc _ _ _))⟩))))
                    go_ret2
                    exact ⟨by first | rfl | (simp [errW_none, errW_some] <;> rfl) | (simp [*, errW_none, errW_some] <;> rfl), by repeat (first | (with_reducible first | exact HB.out | apply below_alloc | apply pw_below_drewN | apply below_drew1) | exact HB.out)⟩
                · rw [if_neg c9] at H
                  exact absurd H (by simp)
              · replace c8 := Bool.eq_false_iff.mpr c8
                subst c8
                have H1 : (some (0, 2)) = some (r1, r2) := by rw [if_neg (show ¬ (false = true) by decide)] at H; exact H
                clear H
                have H := H1
                clear H1
                simp only [Option.some.injEq, Prod.mk.injEq] at H
                obtain ⟨rfl, rfl⟩ := H
                have p125 : 0 ≤ (x23_1 : Int) := of_decide_eq_true (by first | (with_reducible assumption) | assumption)
                have q125 : x23_1 < (l0.length : Int) := of_decide_eq_true (by first | (with_reducible assumption) | assumption)
                obtain ⟨ad125, e125, hx125_0⟩ := at_F64 HR0.out x23_1 p125 q125
                cases e125
                replace hx125_0 := (HB.out.cell (World.block_lt_of_cell? w _ hx125_0)).trans hx125_0
                replace p125 := eq_true p125
                replace q125 := eq_true q125
                go_wp2_with (first | (go_at_call 18; (with_reducible refine (census_usual.calls (rd_F64 l0 x23_1) false _ A7.out).mono ?_); rintro e w' ⟨rfl, ⟨nd, rfl⟩⟩; (try first | exact ⟨rfl, _, World.drewN_drewN _ _ _⟩ | exact ⟨rfl, _, Eq.trans (World.drewN_drewN _ _ _) (congrArg (World.drewN _) (Nat.add_assoc _ _ _))⟩)))
                repeat (go_quiet (first | (go_at_call 18; (with_reducible refine (census_usual.calls (rd_F64 l0 x23_1) false _ A7.out).mono ?_); rintro e w' ⟨rfl, ⟨nd, rfl⟩⟩; (try first | exact ⟨rfl, _, World.drewN_drewN _ _ _⟩ | exact ⟨rfl, _, Eq.trans (World.drewN_drewN _ _ _) (congrArg (World.drewN _) (Nat.add_assoc _ _ _))⟩))); try go_wp2_with (first | (go_at_call 18; (with_reducible refine (census_usual.calls (rd_F64 l0 x23_1) false _ A7.out).mono ?_); rintro e w' ⟨rfl, ⟨nd, rfl⟩⟩; (try first | exact ⟨rfl, _, World.drewN_drewN _ _ _⟩ | exact ⟨rfl, _, Eq.trans (World.drewN_drewN _ _ _) (congrArg (World.drewN _) (Nat.add_assoc _ _ _))⟩))))
                go_ret2
                exact ⟨by first | rfl | (simp [errW_none, errW_some] <;> rfl) | (simp [*, errW_none, errW_some] <;> rfl), by repeat (first | (with_reducible first | exact HB.out | apply below_alloc | apply pw_below_drewN | apply below_drew1) | exact HB.out)⟩
            · rw [if_neg c6] at H
              exact absurd H (by simp)
          · rw [if_neg c5] at H
            exact absurd H (by simp)
        · rw [if_neg c4] at H
          have c4b0 : decide (x23_1 < (l0.length : Int)) = false := decide_eq_false c4
          clear c4
          by_cases c14 : (fEq (floatOfInt .f64 (l0.length : Int)) 0) = true
          · rw [if_pos c14] at H
            have c14b0 : (fEq (floatOfInt .f64 (l0.length : Int)) 0) = true := c14
            clear c14
            simp only [Option.some.injEq, Prod.mk.injEq] at H
            obtain ⟨rfl, rfl⟩ := H
            go_wp2
            repeat (go_quiet (fail); try go_wp2)
            go_ret2
            exact ⟨by first | rfl | (simp [errW_none, errW_some] <;> rfl) | (simp [*, errW_none, errW_some] <;> rfl), by repeat (first | (with_reducible first | exact HB.out | apply below_alloc | apply pw_below_drewN | apply below_drew1) | exact HB.out)⟩
          · rw [if_neg c14] at H
            have c14b0 : (fEq (floatOfInt .f64 (l0.length : Int)) 0) = false := by simpa using c14
            clear c14
            replace H := Option.bind_eq_some_iff.mp H
            obtain ⟨t133, A150, H⟩ := H
            replace H : ((fQuo x7_1 (floatOfInt .f64 (l0.length : Int))).bind fun t134 => (census_Likeness.l1 k1 l0 l1 t133 t134 0 0 0 (l0.length : Int) 0)) = some (r1, r2) := H
            have A15f := fun (t_ : TypeId) (W_ : World) => run_fQuo (P := Try.prog) A150 t_ W_
            have A15 := Aside0.mk A150
            clear A150
            replace H := Option.bind_eq_some_iff.mp H
            obtain ⟨t134, A160, H⟩ := H
            replace H : (census_Likeness.l1 k1 l0 l1 t133 t134 0 0 0 (l0.length : Int) 0) = some (r1, r2) := H
            have A16f := fun (t_ : TypeId) (W_ : World) => run_fQuo (P := Try.prog) A160 t_ W_
            have A16 := Aside0.mk A160
            clear A160
            have H' := Aside0.mk H
            clear H
            go_wp2
            repeat (go_quiet (fail); try go_wp2)
            go_loopg [10, 11, 12, 66] k1 (fun kq v10 v11 v12 v66 w' => ∃ (x10_2 : Nat) (x11_2 : Nat) (x12_2 : Nat) (x66_2 : Int), v10 = .float .f64 x10_2 ∧ v11 = .float .f64 x11_2 ∧ v12 = .float .f64 x12_2 ∧ v66 = .int .i64 x66_2 ∧ Aside0 (census_Likeness.l1 kq l0 l1 t133 t134 x10_2 x11_2 x12_2 (l0.length : Int) x66_2 = some (r1, r2)) ∧ Aside0 (kq ≤ k1) ∧ Aside0 (Below w.heap.size w w'))
            case atStart => exact ⟨(0), (0), (0), (0), (by first | rfl | (simp; done) | (simp [*]; done)), (by first | rfl | (simp; done) | (simp [*]; done)), (by first | rfl | (simp; done) | (simp [*]; done)), (by first | rfl | (simp; done) | (simp [*]; done)), H', ⟨Nat.le_refl _⟩, ⟨by repeat (first | (with_reducible first | exact HB.out | apply below_alloc | apply pw_below_drewN | apply below_drew1) | exact HB.out)⟩⟩
            case round =>
              clear H'
              try clear c1
              try clear p1
              try clear q1
              try clear hx1
              try clear p2
              try clear c3
              try clear c3b0
              try clear c3b1
              try clear c3b2
              try clear c4
              try clear c4b0
              try clear c5
              try clear c5b0
              try clear c6
              try clear c6b0
              try clear p6
              try clear c7
              try clear c8
              try clear c9
              try clear c9b0
              try clear c11
              try clear p12
              try clear q12
              try clear hx12
              try clear p13
              try clear q13
              try clear hx13
              try clear c14
              try clear c14b0
              try clear hx125_0
              try clear hx127_0
              try clear hx129_0
              try clear hx131_0
              try clear p125
              try clear p127
              try clear p129
              try clear p131
              try clear p2
              try clear q125
              try clear q127
              try clear q129
              try clear q131
              obtain ⟨x10_2, x11_2, x12_2, x66_2, rfl, rfl, rfl, rfl, HA, HK2, HB⟩ := hrel
              cases gk with
              | zero => exact absurd HA.out (by simp [census_Likeness.l1])
              | succ k2 =>
                have H := HA.out
                clear HA
                simp only [census_Likeness.l1] at H
                by_cases c17 : x66_2 < (l0.length : Int)
                · rw [if_pos c17] at H
                  have c17b0 : decide (x66_2 < (l0.length : Int)) = true := decide_eq_true c17
                  clear c17
                  by_cases c18 : 0 ≤ x66_2
                  · rw [if_pos c18] at H
                    have c18b0 : decide (0 ≤ x66_2) = true := decide_eq_true c18
                    clear c18
                    by_cases c19 : x66_2 < (l0.length : Int)
                    · rw [if_pos c19] at H
                      have c19b0 : decide (x66_2 < (l0.length : Int)) = true := decide_eq_true c19
                      clear c19
                      replace H := Option.bind_eq_some_iff.mp H
                      obtain ⟨t136, A200, H⟩ := H
                      replace H : (if x66_2 < (l1.length : Int) then ((fSub (rd_F64 l1 x66_2) t134).bind fun t138 => ((fMul t136 t138).bind fun t139 => ((fAdd x10_2 t139).bind fun t140 => ((fMul t136 t136).bind fun t141 => ((fAdd x11_2 t141).bind fun t142 => ((fMul t138 t138).bind fun t143 => ((fAdd x12_2 t143).bind fun t144 => (census_Likeness.l1 k2 l0 l1 t133 t134 t140 t142 t144 (l0.length : Int) (wrap64 (x66_2 + 1)))))))))) else (none)) = some (r1, r2) := H
                      have A20f := fun (t_ : TypeId) (W_ : World) => run_fSub (P := Try.prog) A200 t_ W_
                      have A20 := Aside0.mk A200
                      clear A200
                      by_cases c21 : x66_2 < (l1.length : Int)
                      · rw [if_pos c21] at H
                        have c21b0 : decide (x66_2 < (l1.length : Int)) = true := decide_eq_true c21
                        clear c21
                        replace H := Option.bind_eq_some_iff.mp H
                        obtain ⟨t138, A220, H⟩ := H
                        replace H : ((fMul t136 t138).bind fun t139 => ((fAdd x10_2 t139).bind fun t140 => ((fMul t136 t136).bind fun t141 => ((fAdd x11_2 t141).bind fun t142 => ((fMul t138 t138).bind fun t143 => ((fAdd x12_2 t143).bind fun t144 => (census_Likeness.l1 k2 l0 l1 t133 t134 t140 t142 t144 (l0.length : Int) (wrap64 (x66_2 + 1))))))))) = some (r1, r2) := H
                        have A22f := fun (t_ : TypeId) (W_ : World) => run_fSub (P := Try.prog) A220 t_ W_
                        have A22 := Aside0.mk A220
                        clear A220
                        replace H := Option.bind_eq_some_iff.mp H
                        obtain ⟨t139, A230, H⟩ := H
                        replace H : ((fAdd x10_2 t139).bind fun t140 => ((fMul t136 t136).bind fun t141 => ((fAdd x11_2 t141).bind fun t142 => ((fMul t138 t138).bind fun t143 => ((fAdd x12_2 t143).bind fun t144 => (census_Likeness.l1 k2 l0 l1 t133 t134 t140 t142 t144 (l0.length : Int) (wrap64 (x66_2 + 1)))))))) = some (r1, r2) := H
                        have A23f := fun (t_ : TypeId) (W_ : World) => run_fMul (P := Try.prog) A230 t_ W_
                        have A23 := Aside0.mk A230
                        clear A230
                        replace H := Option.bind_eq_some_iff.mp H
                        obtain ⟨t140, A240, H⟩ := H
                        replace H : ((fMul t136 t136).bind fun t141 => ((fAdd x11_2 t141).bind fun t142 => ((fMul t138 t138).bind fun t143 => ((fAdd x12_2 t143).bind fun t144 => (census_Likeness.l1 k2 l0 l1 t133 t134 t140 t142 t144 (l0.length : Int) (wrap64 (x66_2 + 1))))))) = some (r1, r2) := H
                        have A24f := fun (t_ : TypeId) (W_ : World) => run_fAdd (P := Try.prog) A240 t_ W_
                        have A24 := Aside0.mk A240
                        clear A240
                        replace H := Option.bind_eq_some_iff.mp H
                        obtain ⟨t141, A250, H⟩ := H
                        replace H : ((fAdd x11_2 t141).bind fun t142 => ((fMul t138 t138).bind fun t143 => ((fAdd x12_2 t143).bind fun t144 => (census_Likeness.l1 k2 l0 l1 t133 t134 t140 t142 t144 (l0.length : Int) (wrap64 (x66_2 + 1)))))) = some (r1, r2) := H
                        have A25f := fun (t_ : TypeId) (W_ : World) => run_fMul (P := Try.prog) A250 t_ W_
                        have A25 := Aside0.mk A250
                        clear A250
                        replace H := Option.bind_eq_some_iff.mp H
                        obtain ⟨t142, A260, H⟩ := H
                        replace H : ((fMul t138 t138).bind fun t143 => ((fAdd x12_2 t143).bind fun t144 => (census_Likeness.l1 k2 l0 l1 t133 t134 t140 t142 t144 (l0.length : Int) (wrap64 (x66_2 + 1))))) = some (r1, r2) := H
                        have A26f := fun (t_ : TypeId) (W_ : World) => run_fAdd (P := Try.prog) A260 t_ W_
                        have A26 := Aside0.mk A260
                        clear A260
                        replace H := Option.bind_eq_some_iff.mp H
                        obtain ⟨t143, A270, H⟩ := H
                        replace H : ((fAdd x12_2 t143).bind fun t144 => (census_Likeness.l1 k2 l0 l1 t133 t134 t140 t142 t144 (l0.length : Int) (wrap64 (x66_2 + 1)))) = some (r1, r2) := H
                        have A27f := fun (t_ : TypeId) (W_ : World) => run_fMul (P := Try.prog) A270 t_ W_
                        have A27 := Aside0.mk A270
                        clear A270
                        replace H := Option.bind_eq_some_iff.mp H
                        obtain ⟨t144, A280, H⟩ := H
                        replace H : (census_Likeness.l1 k2 l0 l1 t133 t134 t140 t142 t144 (l0.length : Int) (wrap64 (x66_2 + 1))) = some (r1, r2) := H
                        have A28f := fun (t_ : TypeId) (W_ : World) => run_fAdd (P := Try.prog) A280 t_ W_
                        have A28 := Aside0.mk A280
                        clear A280
                        have H' := Aside0.mk H
                        clear H
                        have p135 : 0 ≤ (x66_2 : Int) := of_decide_eq_true (by first | (with_reducible assumption) | assumption)
                        have q135 : x66_2 < (l0.length : Int) := of_decide_eq_true (by first | (with_reducible assumption) | assumption)
                        obtain ⟨ad135, e135, hx135_0⟩ := at_F64 HR0.out x66_2 p135 q135
                        cases e135
                        replace hx135_0 := (HB.out.cell (World.block_lt_of_cell? w _ hx135_0)).trans hx135_0
                        replace p135 := eq_true p135
                        replace q135 := eq_true q135
                        have p137 : 0 ≤ (x66_2 : Int) := of_decide_eq_true (by first | (with_reducible assumption) | assumption)
                        have q137 : x66_2 < (l1.length : Int) := of_decide_eq_true (by first | (with_reducible assumption) | assumption)
                        obtain ⟨ad137, e137, hx137_0⟩ := at_F64 HR1.out x66_2 p137 q137
                        cases e137
                        replace hx137_0 := (HB.out.cell (World.block_lt_of_cell? w _ hx137_0)).trans hx137_0
                        replace p137 := eq_true p137
                        replace q137 := eq_true q137
                        go_wp2
                        repeat (go_quiet (fail); try go_wp2)
                        go_roundg k2
                        case measure => have := HK1.out; have := HK2.out; omega
                        case rel => exact ⟨(t140), (t142), (t144), (wrap64 (x66_2 + 1)), (by first | rfl | (simp; done) | (simp [*]; done)), (by first | rfl | (simp; done) | (simp [*]; done)), (by first | rfl | (simp; done) | (simp [*]; done)), (by first | rfl | (simp; done) | (simp [*]; done)), H', ⟨by have := HK1.out; have := HK2.out; omega⟩, ⟨by repeat (first | (with_reducible first | exact HB.out | apply below_alloc | apply pw_below_drewN | apply below_drew1) | exact HB.out)⟩⟩
                      · rw [if_neg c21] at H
                        exact absurd H (by simp)
                    · rw [if_neg c19] at H
                      exact absurd H (by simp)
                  · rw [if_neg c18] at H
                    exact absurd H (by simp)
                · rw [if_neg c17] at H
                  have c17b0 : decide (x66_2 < (l0.length : Int)) = false := decide_eq_false c17
                  clear c17
                  have HC29 := Aside0.mk H
                  clear H
                  go_upto_region 26 with (fail)
                  repeat (go_quiet (fail); go_upto_region 26 with (fail))
                  go_cut [102] (fun v102 wc => ∃ (kq : Nat) (x102_28 : Bool), v102 = .bool x102_28 ∧ Aside0 (census_Likeness.j2 kq x10_2 x11_2 x12_2 x102_28 = some (r1, r2)) ∧ Aside0 (kq ≤ k2) ∧ Aside0 (Below w.heap.size w wc))
                  case first =>
                    have H := HC29.out
                    clear HC29
                    by_cases c30 : (fEq x11_2 0) = true
                    · rw [if_pos c30] at H
                      have c30b0 : (fEq x11_2 0) = true := c30
                      clear c30
                      (first | rw [c30b0] | (simp only [i64_w, i32_w]; rw [c30b0]) | skip)
                      have H' := Aside0.mk H
                      clear H
                      go_wp2
                      repeat (go_quiet (fail); try go_wp2)
                      go_meet
                      case rel => exact ⟨_, (true), (by first | rfl | (simp; done) | (simp [*]; done)), H', ⟨by have := HK1.out; have := HK2.out; first | omega | exact Nat.le_refl _⟩, ⟨by repeat (first | (with_reducible first | exact HB.out | apply below_alloc | apply pw_below_drewN | apply below_drew1) | exact HB.out)⟩⟩
                    · rw [if_neg c30] at H
                      have c30b0 : (fEq x11_2 0) = false := by simpa using c30
                      clear c30
                      (first | rw [c30b0] | (simp only [i64_w, i32_w]; rw [c30b0]) | skip)
                      have H' := Aside0.mk H
                      clear H
                      go_wp2
                      repeat (go_quiet (fail); try go_wp2)
                      go_meet
                      case rel => exact ⟨_, ((fEq x12_2 0)), (by first | rfl | (simp; done) | (simp [*]; done)), H', ⟨by have := HK1.out; have := HK2.out; first | omega | exact Nat.le_refl _⟩, ⟨by repeat (first | (with_reducible first | exact HB.out | apply below_alloc | apply pw_below_drewN | apply below_drew1) | exact HB.out)⟩⟩
                  case rest =>
                    clear HC29
                    try clear c1
                    try clear p1
                    try clear q1
                    try clear hx1
                    try clear c2
                    try clear p2
                    try clear c3
                    try clear c3b0
                    try clear c3b1
                    try clear c3b2
                    try clear c4
                    try clear c4b0
                    try clear c5
                    try clear c5b0
                    try clear c6
                    try clear c6b0
                    try clear p6
                    try clear c7
                    try clear c8
                    try clear c9
                    try clear c9b0
                    try clear c11
                    try clear p12
                    try clear q12
                    try clear hx12
                    try clear p13
                    try clear q13
                    try clear hx13
                    try clear c14
                    try clear c14b0
                    try clear c17
                    try clear c17b0
                    try clear c18
                    try clear c18b0
                    try clear c19
                    try clear c19b0
                    try clear c21
                    try clear c21b0
                    try clear c30
                    try clear c30b0
                    try clear hx125_0
                    try clear hx127_0
                    try clear hx129_0
                    try clear hx131_0
                    try clear hx135_0
                    try clear hx137_0
                    try clear p1
                    try clear p12
                    try clear p125
                    try clear p127
                    try clear p129
                    try clear p13
                    try clear p131
                    try clear p135
                    try clear p137
                    try clear p2
                    try clear p6
                    try clear q1
                    try clear q12
                    try clear q125
                    try clear q127
                    try clear q129
                    try clear q13
                    try clear q131
                    try clear q135
                    try clear q137
                    obtain ⟨kq, x102_28, rfl, HA, HJ28, HB⟩ := hcut
                    cases kq with
                    | zero => exact absurd HA.out (by simp [census_Likeness.j2])
                    | succ kj28 =>
                      have H := HA.out
                      clear HA
                      simp only [census_Likeness.j2] at H
                      by_cases c31 : x102_28 = true
                      · subst c31
                        have H1 : (some (0, 0)) = some (r1, r2) := by rw [if_pos rfl] at H; exact H
                        clear H
                        have H := H1
                        clear H1
                        simp only [Option.some.injEq, Prod.mk.injEq] at H
                        obtain ⟨rfl, rfl⟩ := H
                        go_wp2
                        repeat (go_quiet (fail); try go_wp2)
                        go_ret2
                        exact ⟨by first | rfl | (simp [errW_none, errW_some] <;> rfl) | (simp [*, errW_none, errW_some] <;> rfl), by repeat (first | (with_reducible first | exact HB.out | apply below_alloc | apply pw_below_drewN | apply below_drew1) | exact HB.out)⟩
                      · replace c31 := Bool.eq_false_iff.mpr c31
                        subst c31
                        have H1 : ((math_Sqrt.f x11_2).bind fun t145 => ((math_Sqrt.f x12_2).bind fun t146 => ((fMul t145 t146).bind fun t147 => ((fQuo x10_2 t147).bind fun t148 => ((fMax 13830554455654793216 t148).bind fun t149 => ((fMin 4607182418800017408 t149).bind fun t150 => (some (t150, 0)))))))) = some (r1, r2) := by rw [if_neg (show ¬ (false = true) by decide)] at H; exact H
                        clear H
                        have H := H1
                        clear H1
                        replace H := Option.bind_eq_some_iff.mp H
                        obtain ⟨t145, A320, H⟩ := H
                        replace H : ((math_Sqrt.f x12_2).bind fun t146 => ((fMul t145 t146).bind fun t147 => ((fQuo x10_2 t147).bind fun t148 => ((fMax 13830554455654793216 t148).bind fun t149 => ((fMin 4607182418800017408 t149).bind fun t150 => (some (t150, 0))))))) = some (r1, r2) := H
                        have A32 := Aside0.mk A320
                        clear A320
                        replace H := Option.bind_eq_some_iff.mp H
                        obtain ⟨t146, A330, H⟩ := H
                        replace H : ((fMul t145 t146).bind fun t147 => ((fQuo x10_2 t147).bind fun t148 => ((fMax 13830554455654793216 t148).bind fun t149 => ((fMin 4607182418800017408 t149).bind fun t150 => (some (t150, 0)))))) = some (r1, r2) := H
                        have A33 := Aside0.mk A330
                        clear A330
                        replace H := Option.bind_eq_some_iff.mp H
                        obtain ⟨t147, A340, H⟩ := H
                        replace H : ((fQuo x10_2 t147).bind fun t148 => ((fMax 13830554455654793216 t148).bind fun t149 => ((fMin 4607182418800017408 t149).bind fun t150 => (some (t150, 0))))) = some (r1, r2) := H
                        have A34f := fun (t_ : TypeId) (W_ : World) => run_fMul (P := Try.prog) A340 t_ W_
                        have A34 := Aside0.mk A340
                        clear A340
                        replace H := Option.bind_eq_some_iff.mp H
                        obtain ⟨t148, A350, H⟩ := H
                        replace H : ((fMax 13830554455654793216 t148).bind fun t149 => ((fMin 4607182418800017408 t149).bind fun t150 => (some (t150, 0)))) = some (r1, r2) := H
                        have A35f := fun (t_ : TypeId) (W_ : World) => run_fQuo (P := Try.prog) A350 t_ W_
                        have A35 := Aside0.mk A350
                        clear A350
                        replace H := Option.bind_eq_some_iff.mp H
                        obtain ⟨t149, A360, H⟩ := H
                        replace H : ((fMin 4607182418800017408 t149).bind fun t150 => (some (t150, 0))) = some (r1, r2) := H
                        have A36f := fun (W_ : World) => run_fMax (P := Try.prog) A360 W_
                        have A36 := Aside0.mk A360
                        clear A360
                        replace H := Option.bind_eq_some_iff.mp H
                        obtain ⟨t150, A370, H⟩ := H
                        replace H : (some (t150, 0)) = some (r1, r2) := H
                        have A37f := fun (W_ : World) => run_fMin (P := Try.prog) A370 W_
                        have A37 := Aside0.mk A370
                        clear A370
                        simp only [Option.some.injEq, Prod.mk.injEq] at H
                        obtain ⟨rfl, rfl⟩ := H
                        go_wp2_with (first | (go_at_call 17; (with_reducible refine (math_Sqrt.calls x11_2 t145 _ A32.out).mono ?_); rintro e w' ⟨rfl, ⟨nd, rfl⟩⟩; (try first | exact ⟨rfl, _, World.drewN_drewN _ _ _⟩ | exact ⟨rfl, _, Eq.trans (World.drewN_drewN _ _ _) (congrArg (World.drewN _) (Nat.add_assoc _ _ _))⟩)) | (go_at_call 17; (with_reducible refine (math_Sqrt.calls x12_2 t146 _ A33.out).mono ?_); rintro e w' ⟨rfl, ⟨nd, rfl⟩⟩; (try first | exact ⟨rfl, _, World.drewN_drewN _ _ _⟩ | exact ⟨rfl, _, Eq.trans (World.drewN_drewN _ _ _) (congrArg (World.drewN _) (Nat.add_assoc _ _ _))⟩)))
                        repeat (go_quiet (first | (go_at_call 17; (with_reducible refine (math_Sqrt.calls x11_2 t145 _ A32.out).mono ?_); rintro e w' ⟨rfl, ⟨nd, rfl⟩⟩; (try first | exact ⟨rfl, _, World.drewN_drewN _ _ _⟩ | exact ⟨rfl, _, Eq.trans (World.drewN_drewN _ _ _) (congrArg (World.drewN _) (Nat.add_assoc _ _ _))⟩)) | (go_at_call 17; (with_reducible refine (math_Sqrt.calls x12_2 t146 _ A33.out).mono ?_); rintro e w' ⟨rfl, ⟨nd, rfl⟩⟩; (try first | exact ⟨rfl, _, World.drewN_drewN _ _ _⟩ | exact ⟨rfl, _, Eq.trans (World.drewN_drewN _ _ _) (congrArg (World.drewN _) (Nat.add_assoc _ _ _))⟩))); try go_wp2_with (first | (go_at_call 17; (with_reducible refine (math_Sqrt.calls x11_2 t145 _ A32.out).mono ?_); rintro e w' ⟨rfl, ⟨nd, rfl⟩⟩; (try first | exact ⟨rfl, _, World.drewN_drewN _ _ _⟩ | exact ⟨rfl, _, Eq.trans (World.drewN_drewN _ _ _) (congrArg (World.drewN _) (Nat.add_assoc _ _ _))⟩)) | (go_at_call 17; (with_reducible refine (math_Sqrt.calls x12_2 t146 _ A33.out).mono ?_); rintro e w' ⟨rfl, ⟨nd, rfl⟩⟩; (try first | exact ⟨rfl, _, World.drewN_drewN _ _ _⟩ | exact ⟨rfl, _, Eq.trans (World.drewN_drewN _ _ _) (congrArg (World.drewN _) (Nat.add_assoc _ _ _))⟩))))
                        go_ret2
                        exact ⟨by first | rfl | (simp [errW_none, errW_some] <;> rfl) | (simp [*, errW_none, errW_some] <;> rfl), by repeat (first | (with_reducible first | exact HB.out | apply below_alloc | apply pw_below_drewN | apply below_drew1) | exact HB.out)⟩
  · rw [if_neg c3] at H
    have c3b0 : ((l0.length : Int) == (l1.length : Int)) = false := beq_eq_false_iff_ne.mpr c3
    have c3b1 : ((l0.length : Int) != (l1.length : Int)) = true := bne_iff_ne.mpr c3
    have c3b2 : (l0.length == l1.length) = false := by first | simpa using c3 | (simp at c3 ⊢; omega)
    simp only [Option.some.injEq, Prod.mk.injEq] at H
    obtain ⟨rfl, rfl⟩ := H
    go_enter Try.func7, Try.ntmps7
    go_wp2
    repeat (go_quiet (fail); try go_wp2)
    go_ret2
    exact ⟨by first | rfl | (simp [errW_none, errW_some] <;> rfl) | (simp [*, errW_none, errW_some] <;> rfl), by repeat (first | (with_reducible first | exact HB.out | apply below_alloc | apply pw_below_drewN | apply below_drew1) | exact HB.out)⟩

/-! ### vivariumlaw28_float: function 8 -/
def vivariumlaw28_float.f (a0 : Nat) (a1 : Nat) : Option (Bool) := if (fNe a0 a0) = true then (some (fNe a1 a1)) else (if (fNe a1 a1) = true then (some false) else (if (fEq a0 a1) = true then (if (fNe a0 0) = true then (some true) else ((fQuo 4607182418800017408 a0).bind fun t151 => ((fQuo 4607182418800017408 a1).bind fun t152 => (some (fEq t151 t152))))) else (some false)))
set_option maxHeartbeats 8000000 in
set_option maxRecDepth 100000 in
theorem vivariumlaw28_float.calls (a0 : Nat) (a1 : Nat) (r : Bool) (w : World) (h : vivariumlaw28_float.f a0 a1 = some r) :
    Calls Try.prog 8 #[.float .f64 a0, .float .f64 a1] w fun e w' => e = .returned (.bool r) ∧ Drawn0 w w' := by
  have H : (if (fNe a0 a0) = true then (some (fNe a1 a1)) else (if (fNe a1 a1) = true then (some false) else (if (fEq a0 a1) = true then (if (fNe a0 0) = true then (some true) else ((fQuo 4607182418800017408 a0).bind fun t151 => ((fQuo 4607182418800017408 a1).bind fun t152 => (some (fEq t151 t152))))) else (some false)))) = some r := h
  clear h
  by_cases c3 : (fNe a0 a0) = true
  · rw [if_pos c3] at H
    have c3b0 : (fNe a0 a0) = true := c3
    clear c3
    obtain rfl := Option.some.inj H
    go_enter Try.func8, Try.ntmps8
    go_wp2
    go_ret
    exact ⟨by first | rfl | (simp; done) | (simp [*]; done), by repeat (first | exact Drawn0.refl _ | apply Drawn0.step)⟩
  · rw [if_neg c3] at H
    have c3b0 : (fNe a0 a0) = false := by simpa using c3
    clear c3
    by_cases c4 : (fNe a1 a1) = true
    · rw [if_pos c4] at H
      have c4b0 : (fNe a1 a1) = true := c4
      clear c4
      obtain rfl := Option.some.inj H
      go_enter Try.func8, Try.ntmps8
      go_wp2
      go_ret
      exact ⟨by first | rfl | (simp; done) | (simp [*]; done), by repeat (first | exact Drawn0.refl _ | apply Drawn0.step)⟩
    · rw [if_neg c4] at H
      have c4b0 : (fNe a1 a1) = false := by simpa using c4
      clear c4
      by_cases c5 : (fEq a0 a1) = true
      · rw [if_pos c5] at H
        have c5b0 : (fEq a0 a1) = true := c5
        clear c5
        by_cases c6 : (fNe a0 0) = true
        · rw [if_pos c6] at H
          have c6b0 : (fNe a0 0) = true := c6
          clear c6
          obtain rfl := Option.some.inj H
          go_enter Try.func8, Try.ntmps8
          go_wp2
          go_ret
          exact ⟨by first | rfl | (simp; done) | (simp [*]; done), by repeat (first | exact Drawn0.refl _ | apply Drawn0.step)⟩
        · rw [if_neg c6] at H
          have c6b0 : (fNe a0 0) = false := by simpa using c6
          clear c6
          replace H := Option.bind_eq_some_iff.mp H
          obtain ⟨t151, A70, H⟩ := H
          replace H : ((fQuo 4607182418800017408 a1).bind fun t152 => (some (fEq t151 t152))) = some r := H
          have A7f := fun (t_ : TypeId) (W_ : World) => run_fQuo (P := Try.prog) A70 t_ W_
          have A7 := Aside0.mk A70
          clear A70
          replace H := Option.bind_eq_some_iff.mp H
          obtain ⟨t152, A80, H⟩ := H
          replace H : (some (fEq t151 t152)) = some r := H
          have A8f := fun (t_ : TypeId) (W_ : World) => run_fQuo (P := Try.prog) A80 t_ W_
          have A8 := Aside0.mk A80
          clear A80
          obtain rfl := Option.some.inj H
          go_enter Try.func8, Try.ntmps8
          go_wp2
          go_ret
          exact ⟨by first | rfl | (simp; done) | (simp [*]; done), by repeat (first | exact Drawn0.refl _ | apply Drawn0.step)⟩
      · rw [if_neg c5] at H
        have c5b0 : (fEq a0 a1) = false := by simpa using c5
        clear c5
        obtain rfl := Option.some.inj H
        go_enter Try.func8, Try.ntmps8
        go_wp2
        go_ret
        exact ⟨by first | rfl | (simp; done) | (simp [*]; done), by repeat (first | exact Drawn0.refl _ | apply Drawn0.step)⟩

end Go.Proofs.Ytkmcaoheehkflaa.Lk
