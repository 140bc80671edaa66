/- The machine's side of Go functions of this seat: for each a Lean function and a proof that the call comes to what it says. Written by a program of this session (wip/xp) for this claim. -/
import Derived.Test.YtkmcaoheehkflaaLk0
import Derived.Test.YtkmcaoheehkflaaLkg
namespace Go.Proofs.Ytkmcaoheehkflaa.Lk
open Go.RowKit Go.Proofs.YtkmcaoheehkflaaW.PrintWords Go.Proofs.YtkmcaoheehkflaaW.PrintLast Go.Proofs.YtkmcaoheehkflaaW.PrintMore
attribute [local go_sem] max2_int min2_int max_two min_two max_three min_three max_four min_four   -- for this text's walks alone
open Go.Proofs.YtkmcaoheehkflaaW.XWords
attribute [local go_sem high] binOp_fEq binOp_fNe binOp_fLt binOp_fLe binOp_fGt binOp_fGe binOp_cEq binOp_cNe unOp_fNeg unOp_cNeg equalIn_f64 equalIn_c128
attribute [local go_sem] run_real run_imag run_complex run_store_f64 run_store_c128 run_store_fn
set_option linter.unusedVariables false
set_option linter.unusedSimpArgs false

/-! ### vivariumref28_small: function 16 -/
def vivariumref28_small.f (a0 : Nat) : Option (Bool) := if (fGe a0 14010698440749613056) = true then (some (fLe a0 4787326403894837248)) else (some false)
set_option maxHeartbeats 8000000 in
set_option maxRecDepth 100000 in
theorem vivariumref28_small.calls (a0 : Nat) (r : Bool) (w : World) (h : vivariumref28_small.f a0 = some r) :
    Calls Try.prog 16 #[.float .f64 a0] w fun e w' => e = .returned (.bool r) ∧ Drawn0 w w' := by
  have H : (if (fGe a0 14010698440749613056) = true then (some (fLe a0 4787326403894837248)) else (some false)) = some r := h
  clear h
  by_cases c2 : (fGe a0 14010698440749613056) = true
  · rw [if_pos c2] at H
    have c2b0 : (fGe a0 14010698440749613056) = true := c2
    clear c2
    obtain rfl := Option.some.inj H
    go_enter Try.func16, Try.ntmps16
    go_wp2
    go_ret
    exact ⟨by first | rfl | (simp; done) | (simp [*]; done), by repeat (first | exact Drawn0.refl _ | apply Drawn0.step)⟩
  · rw [if_neg c2] at H
    have c2b0 : (fGe a0 14010698440749613056) = false := by simpa using c2
    clear c2
    obtain rfl := Option.some.inj H
    go_enter Try.func16, Try.ntmps16
    go_wp2
    go_ret
    exact ⟨by first | rfl | (simp; done) | (simp [*]; done), by repeat (first | exact Drawn0.refl _ | apply Drawn0.step)⟩


/-! ### vivariumref28_Likeness: function 6 -/
mutual
def vivariumref28_Likeness.l0 : Nat → List Nat → List Nat → Int → Option (Nat × Int)
  | 0, _, _, _ => none
  | k + 1, x0, x1, x6 => if x6 < (x0.length : Int) then (if 0 ≤ x6 then ((vivariumref28_small.f (rd_F64 x0 x6)).bind fun t102 => (if t102 = true then (if x6 < (x1.length : Int) then ((vivariumref28_small.f (rd_F64 x1 x6)).bind fun t104 => (if t104 = true then (vivariumref28_Likeness.l0 k x0 x1 (wrap64 (x6 + 1))) else (some (0, 2)))) else (none)) else (some (0, 2)))) else (none)) else (if (x0.length : Int) = 0 then (some (0, 0)) else (vivariumref28_Likeness.l1 k x0 x1 (floatOfInt .f64 (x0.length : Int)) 0 0 0))
def vivariumref28_Likeness.l1 : Nat → List Nat → List Nat → Nat → Nat → Nat → Int → Option (Nat × Int)
  | 0, _, _, _, _, _, _ => none
  | k + 1, x0, x1, x7, x8, x9, x10 => if x10 < (x0.length : Int) then (if 0 ≤ x10 then ((fAdd x8 (rd_F64 x0 x10)).bind fun t106 => (if x10 < (x1.length : Int) then ((fAdd x9 (rd_F64 x1 x10)).bind fun t108 => (vivariumref28_Likeness.l1 k x0 x1 x7 t106 t108 (wrap64 (x10 + 1)))) else (none))) else (none)) else ((fQuo x8 x7).bind fun t109 => ((fQuo x9 x7).bind fun t110 => (vivariumref28_Likeness.l2 k x0 x1 t109 t110 0 0 0 0)))
def vivariumref28_Likeness.l2 : Nat → List Nat → List Nat → Nat → Nat → Nat → Nat → Nat → Int → Option (Nat × Int)
  | 0, _, _, _, _, _, _, _, _ => none
  | k + 1, x0, x1, x8, x9, x11, x12, x13, x14 => if x14 < (x0.length : Int) then (if 0 ≤ x14 then ((fSub (rd_F64 x0 x14) x8).bind fun t112 => (if x14 < (x1.length : Int) then ((fSub (rd_F64 x1 x14) x9).bind fun t114 => ((fMul t112 t114).bind fun t115 => ((fAdd x11 t115).bind fun t116 => ((fMul t112 t112).bind fun t117 => ((fAdd x12 t117).bind fun t118 => ((fMul t114 t114).bind fun t119 => ((fAdd x13 t119).bind fun t120 => (vivariumref28_Likeness.l2 k x0 x1 x8 x9 t116 t118 t120 (wrap64 (x14 + 1)))))))))) else (none))) else (none)) else (if (fEq x12 0) = true then (vivariumref28_Likeness.j3 k x11 x12 x13 true) else (vivariumref28_Likeness.j3 k x11 x12 x13 (fEq x13 0)))
def vivariumref28_Likeness.j3 : Nat → Nat → Nat → Nat → Bool → Option (Nat × Int)
  | 0, _, _, _, _ => none
  | k + 1, x11, x12, x13, x111 => if x111 = true then (some (0, 0)) else ((math_Sqrt.f x12).bind fun t121 => ((math_Sqrt.f x13).bind fun t122 => ((fMul t121 t122).bind fun t123 => ((fQuo x11 t123).bind fun t124 => (if (fGt t124 4607182418800017408) = true then (some (4607182418800017408, 0)) else (if (fLt t124 13830554455654793216) = true then (some (13830554455654793216, 0)) else (some (t124, 0))))))))
end
def vivariumref28_Likeness.f (k : Nat) (l0 : List Nat) (l1 : List Nat) : Option (Nat × Int) := if (l0.length : Int) = (l1.length : Int) then (vivariumref28_Likeness.l0 k l0 l1 0) else (some (0, 21))
theorem vivariumref28_Likeness.mono_l : ∀ k, (∀ y0 y1 y2, LeO (vivariumref28_Likeness.l0 k y0 y1 y2) (vivariumref28_Likeness.l0 (k + 1) y0 y1 y2)) ∧ (∀ y0 y1 y2 y3 y4 y5, LeO (vivariumref28_Likeness.l1 k y0 y1 y2 y3 y4 y5) (vivariumref28_Likeness.l1 (k + 1) y0 y1 y2 y3 y4 y5)) ∧ (∀ y0 y1 y2 y3 y4 y5 y6 y7, LeO (vivariumref28_Likeness.l2 k y0 y1 y2 y3 y4 y5 y6 y7) (vivariumref28_Likeness.l2 (k + 1) y0 y1 y2 y3 y4 y5 y6 y7)) ∧ (∀ y0 y1 y2 y3, LeO (vivariumref28_Likeness.j3 k y0 y1 y2 y3) (vivariumref28_Likeness.j3 (k + 1) y0 y1 y2 y3))
  | 0 => ⟨fun _ _ _ r h => by simp [vivariumref28_Likeness.l0] at h, fun _ _ _ _ _ _ r h => by simp [vivariumref28_Likeness.l1] at h, fun _ _ _ _ _ _ _ _ r h => by simp [vivariumref28_Likeness.l2] at h, fun _ _ _ _ r h => by simp [vivariumref28_Likeness.j3] at h⟩
  | k + 1 => by
    obtain ⟨ih0, ih1, ih2, ih3⟩ := vivariumref28_Likeness.mono_l k
    refine ⟨?_, ?_, ?_, ?_⟩
    · intro y0 y1 y2
      unfold vivariumref28_Likeness.l0
      repeat' first
      | (with_reducible exact ih0 _ _ _)
      | (with_reducible exact ih1 _ _ _ _ _ _)
      | (with_reducible exact ih2 _ _ _ _ _ _ _ _)
      | (with_reducible exact ih3 _ _ _ _)
      | (with_reducible exact LeO.refl _)
      | (with_reducible exact LeO.none _)
      | (with_reducible refine LeO.ite ?_ ?_)
      | (with_reducible refine LeO.bind ?_ (fun _ => ?_))
      | exact ih0 _ _ _
      | exact ih1 _ _ _ _ _ _
      | exact ih2 _ _ _ _ _ _ _ _
      | exact ih3 _ _ _ _
      | exact LeO.none _
      | refine LeO.ite ?_ ?_
      | refine LeO.bind ?_ (fun _ => ?_)
    · intro y0 y1 y2 y3 y4 y5
      unfold vivariumref28_Likeness.l1
      repeat' first
      | (with_reducible exact ih0 _ _ _)
      | (with_reducible exact ih1 _ _ _ _ _ _)
      | (with_reducible exact ih2 _ _ _ _ _ _ _ _)
      | (with_reducible exact ih3 _ _ _ _)
      | (with_reducible exact LeO.refl _)
      | (with_reducible exact LeO.none _)
      | (with_reducible refine LeO.ite ?_ ?_)
      | (with_reducible refine LeO.bind ?_ (fun _ => ?_))
      | exact ih0 _ _ _
      | exact ih1 _ _ _ _ _ _
      | exact ih2 _ _ _ _ _ _ _ _
      | exact ih3 _ _ _ _
      | exact LeO.none _
      | refine LeO.ite ?_ ?_
      | refine LeO.bind ?_ (fun _ => ?_)
    · intro y0 y1 y2 y3 y4 y5 y6 y7
      unfold vivariumref28_Likeness.l2
      repeat' first
      | (with_reducible exact ih0 _ _ _)
      | (with_reducible exact ih1 _ _ _ _ _ _)
      | (with_reducible exact ih2 _ _ _ _ _ _ _ _)
      | (with_reducible exact ih3 _ _ _ _)
      | (with_reducible exact LeO.refl _)
      | (with_reducible exact LeO.none _)
      | (with_reducible refine LeO.ite ?_ ?_)
      | (with_reducible refine LeO.bind ?_ (fun _ => ?_))
      | exact ih0 _ _ _
      | exact ih1 _ _ _ _ _ _
      | exact ih2 _ _ _ _ _ _ _ _
      | exact ih3 _ _ _ _
      | exact LeO.none _
      | refine LeO.ite ?_ ?_
      | refine LeO.bind ?_ (fun _ => ?_)
    · intro y0 y1 y2 y3
      unfold vivariumref28_Likeness.j3
      repeat' first
      | (with_reducible exact ih0 _ _ _)
      | (with_reducible exact ih1 _ _ _ _ _ _)
      | (with_reducible exact ih2 _ _ _ _ _ _ _ _)
      | (with_reducible exact ih3 _ _ _ _)
      | (with_reducible exact LeO.refl _)
      | (with_reducible exact LeO.none _)
      | (with_reducible refine LeO.ite ?_ ?_)
      | (with_reducible refine LeO.bind ?_ (fun _ => ?_))
      | exact ih0 _ _ _
      | exact ih1 _ _ _ _ _ _
      | exact ih2 _ _ _ _ _ _ _ _
      | exact ih3 _ _ _ _
      | exact LeO.none _
      | refine LeO.ite ?_ ?_
      | refine LeO.bind ?_ (fun _ => ?_)
theorem vivariumref28_Likeness.mono : ∀ a0 a1 k, LeO (vivariumref28_Likeness.f k a0 a1) (vivariumref28_Likeness.f (k + 1) a0 a1) := by
  intro a0 a1 k
  obtain ⟨ih0, ih1, ih2, ih3⟩ := vivariumref28_Likeness.mono_l k
  unfold vivariumref28_Likeness.f
  repeat' first
      | (with_reducible exact ih0 _ _ _)
      | (with_reducible exact ih1 _ _ _ _ _ _)
      | (with_reducible exact ih2 _ _ _ _ _ _ _ _)
      | (with_reducible exact ih3 _ _ _ _)
      | (with_reducible exact LeO.refl _)
      | (with_reducible exact LeO.none _)
      | (with_reducible refine LeO.ite ?_ ?_)
      | (with_reducible refine LeO.bind ?_ (fun _ => ?_))
      | exact ih0 _ _ _
      | exact ih1 _ _ _ _ _ _
      | exact ih2 _ _ _ _ _ _ _ _
      | exact ih3 _ _ _ _
      | exact LeO.none _
      | refine LeO.ite ?_ ?_
      | refine LeO.bind ?_ (fun _ => ?_)
set_option maxHeartbeats 8000000 in
set_option maxRecDepth 100000 in
theorem vivariumref28_Likeness.calls (k : Nat) (A0 : Option Addr) (c0 : Nat) (l0 : List Nat) (A1 : Option Addr) (c1 : Nat) (l1 : List Nat) (r1 : Nat) (r2 : Int) (w : World) (hr0 : Kd.C kF64 w A0 l0.length l0) (hc0 : l0.length ≤ c0) (hr1 : Kd.C kF64 w A1 l1.length l1) (hc1 : l1.length ≤ c1) (h : vivariumref28_Likeness.f k l0 l1 = some (r1, r2)) :
    Calls Try.prog 6 #[.slice A0 l0.length c0, .slice A1 l1.length c1] w fun e w' => e = .returned (.tuple #[.float .f64 r1, .int .i64 r2]) ∧ Drawn0 w w' := by
  have hcv3_23 := fun (n_ : Int) (W_ : World) => run_convert_int_float (P := Try.prog) W_ 3 23 .i64 .f64 n_ (by kernel_rfl) Try.underlying23
  have HR0 := Aside0.mk hr0
  have HC0 := Aside0.mk hc0
  clear hr0 hc0
  have HR1 := Aside0.mk hr1
  have HC1 := Aside0.mk hc1
  clear hr1 hc1
  have H : (if (l0.length : Int) = (l1.length : Int) then (vivariumref28_Likeness.l0 k l0 l1 0) else (some (0, 21))) = some (r1, r2) := h
  clear h
  by_cases c3 : (l0.length : Int) = (l1.length : Int)
  · rw [if_pos c3] at H
    have c3b0 : ((l0.length : Int) == (l1.length : Int)) = true := beq_iff_eq.mpr c3
    have c3b1 : ((l0.length : Int) != (l1.length : Int)) = false := bne_eq_false_iff_eq.mpr c3
    have c3b2 : (l0.length == l1.length) = true := by first | simpa using c3 | (simp at c3 ⊢; omega)
    clear c3
    have H' := Aside0.mk H
    clear H
    go_enter Try.func6, Try.ntmps6
    go_wp2
    go_loopg [6] k (fun kq v6 w' => ∃ (x6_1 : Int), v6 = .int .i64 x6_1 ∧ Aside0 (vivariumref28_Likeness.l0 kq l0 l1 x6_1 = some (r1, r2)) ∧ Aside0 (kq ≤ k) ∧ Drawn0 w w')
    case atStart => exact ⟨(0), (by first | rfl | (simp; done) | (simp [*]; done)), H', ⟨Nat.le_refl _⟩, by repeat (first | exact Drawn0.refl _ | apply Drawn0.step)⟩
    case round =>
      clear H'
      try clear c1
      try clear p2
      try clear c3
      try clear c3b0
      try clear c3b1
      try clear c3b2
      obtain ⟨x6_1, rfl, HA, HK1, ⟨m1, rfl⟩⟩ := hrel
      cases gk with
      | zero => exact absurd HA.out (by simp [vivariumref28_Likeness.l0])
      | succ k1 =>
        have H := HA.out
        clear HA
        simp only [vivariumref28_Likeness.l0] at H
        by_cases c4 : x6_1 < (l0.length : Int)
        · rw [if_pos c4] at H
          have c4b0 : decide (x6_1 < (l0.length : Int)) = true := decide_eq_true c4
          clear c4
          by_cases c5 : 0 ≤ x6_1
          · rw [if_pos c5] at H
            have c5b0 : decide (0 ≤ x6_1) = true := decide_eq_true c5
            clear c5
            replace H := Option.bind_eq_some_iff.mp H
            obtain ⟨t102, A60, H⟩ := H
            replace H : (if t102 = true then (if x6_1 < (l1.length : Int) then ((vivariumref28_small.f (rd_F64 l1 x6_1)).bind fun t104 => (if t104 = true then (vivariumref28_Likeness.l0 k1 l0 l1 (wrap64 (x6_1 + 1))) else (some (0, 2)))) else (none)) else (some (0, 2))) = some (r1, r2) := H
            have A6 := Aside0.mk A60
            clear A60
            by_cases c7 : t102 = true
            · subst c7
              have H1 : (if x6_1 < (l1.length : Int) then ((vivariumref28_small.f (rd_F64 l1 x6_1)).bind fun t104 => (if t104 = true then (vivariumref28_Likeness.l0 k1 l0 l1 (wrap64 (x6_1 + 1))) else (some (0, 2)))) else (none)) = some (r1, r2) := by rw [if_pos rfl] at H; exact H
              clear H
              have H := H1
              clear H1
              by_cases c8 : x6_1 < (l1.length : Int)
              · rw [if_pos c8] at H
                have c8b0 : decide (x6_1 < (l1.length : Int)) = true := decide_eq_true c8
                clear c8
                replace H := Option.bind_eq_some_iff.mp H
                obtain ⟨t104, A90, H⟩ := H
                replace H : (if t104 = true then (vivariumref28_Likeness.l0 k1 l0 l1 (wrap64 (x6_1 + 1))) else (some (0, 2))) = some (r1, r2) := H
                have A9 := Aside0.mk A90
                clear A90
                by_cases c10 : t104 = true
                · subst c10
                  have H1 : (vivariumref28_Likeness.l0 k1 l0 l1 (wrap64 (x6_1 + 1))) = some (r1, r2) := by rw [if_pos rfl] at H; exact H
                  clear H
                  have H := H1
                  clear H1
                  have H' := Aside0.mk H
                  clear H
                  have p101 : 0 ≤ (x6_1 : Int) := of_decide_eq_true (by first | (with_reducible assumption) | assumption)
                  have q101 : x6_1 < (l0.length : Int) := of_decide_eq_true (by first | (with_reducible assumption) | assumption)
                  obtain ⟨ad101, e101, hx101_0⟩ := at_F64 HR0.out x6_1 p101 q101
                  cases e101
                  replace p101 := eq_true p101
                  replace q101 := eq_true q101
                  go_wp2_with (first | ((with_reducible refine gate_callee (f := 16) rfl ?_); refine goesL_ (some 33) rfl rfl Try.func16 (by kernel_rfl) rfl #[.float .f64 (rd_F64 l0 x6_1)] rfl (by (try simp only [List.map_toArray, List.map_cons, List.map_nil]); first | done | rfl | (simp only [List.length_drop, List.length_take]; rfl)) ?_; (with_reducible refine (vivariumref28_small.calls (rd_F64 l0 x6_1) true _ A6.out).mono ?_); rintro e w' ⟨rfl, ⟨nd, rfl⟩⟩; refine ⟨_, rfl, ?_⟩; have p103 : 0 ≤ (x6_1 : Int) := of_decide_eq_true (by first | (with_reducible assumption) | assumption); have q103 : x6_1 < (l1.length : Int) := of_decide_eq_true (by first | (with_reducible assumption) | assumption); obtain ⟨ad103, e103, hx103_0⟩ := at_F64 HR1.out x6_1 p103 q103; cases e103; replace p103 := eq_true p103; replace q103 := eq_true q103) | (go_at_call 16; (with_reducible refine (vivariumref28_small.calls (rd_F64 l1 x6_1) true _ A9.out).mono ?_); rintro e w' ⟨rfl, ⟨nd, rfl⟩⟩))
                  go_roundg k1
                  case measure => have := HK1.out; omega
                  case rel => exact ⟨(wrap64 (x6_1 + 1)), (by first | rfl | (simp; done) | (simp [*]; done)), H', ⟨by have := HK1.out; omega⟩, by repeat (first | exact Drawn0.refl _ | apply Drawn0.step)⟩
                · replace c10 := Bool.eq_false_iff.mpr c10
                  subst c10
                  have H1 : (some (0, 2)) = some (r1, r2) := by rw [if_neg (show ¬ (false = true) by decide)] at H; exact H
                  clear H
                  have H := H1
                  clear H1
                  simp only [Option.some.injEq, Prod.mk.injEq] at H
                  obtain ⟨rfl, rfl⟩ := H
                  have p101 : 0 ≤ (x6_1 : Int) := of_decide_eq_true (by first | (with_reducible assumption) | assumption)
                  have q101 : x6_1 < (l0.length : Int) := of_decide_eq_true (by first | (with_reducible assumption) | assumption)
                  obtain ⟨ad101, e101, hx101_0⟩ := at_F64 HR0.out x6_1 p101 q101
                  cases e101
                  replace p101 := eq_true p101
                  replace q101 := eq_true q101
                  go_wp2_with (first | ((with_reducible refine gate_callee (f := 16) rfl ?_); refine goesL_ (some 33) rfl rfl Try.func16 (by kernel_rfl) rfl #[.float .f64 (rd_F64 l0 x6_1)] rfl (by (try simp only [List.map_toArray, List.map_cons, List.map_nil]); first | done | rfl | (simp only [List.length_drop, List.length_take]; rfl)) ?_; (with_reducible refine (vivariumref28_small.calls (rd_F64 l0 x6_1) true _ A6.out).mono ?_); rintro e w' ⟨rfl, ⟨nd, rfl⟩⟩; refine ⟨_, rfl, ?_⟩; have p103 : 0 ≤ (x6_1 : Int) := of_decide_eq_true (by first | (with_reducible assumption) | assumption); have q103 : x6_1 < (l1.length : Int) := of_decide_eq_true (by first | (with_reducible assumption) | assumption); obtain ⟨ad103, e103, hx103_0⟩ := at_F64 HR1.out x6_1 p103 q103; cases e103; replace p103 := eq_true p103; replace q103 := eq_true q103) | (go_at_call 16; (with_reducible refine (vivariumref28_small.calls (rd_F64 l1 x6_1) false _ A9.out).mono ?_); rintro e w' ⟨rfl, ⟨nd, rfl⟩⟩))
                  go_ret2
                  exact ⟨by first | rfl | (simp; done) | (simp [*]; done), by repeat (first | exact Drawn0.refl _ | apply Drawn0.step)⟩
              · rw [if_neg c8] at H
                exact absurd H (by simp)
            · replace c7 := Bool.eq_false_iff.mpr c7
              subst c7
              have H1 : (some (0, 2)) = some (r1, r2) := by rw [if_neg (show ¬ (false = true) by decide)] at H; exact H
              clear H
              have H := H1
              clear H1
              simp only [Option.some.injEq, Prod.mk.injEq] at H
              obtain ⟨rfl, rfl⟩ := H
              have p101 : 0 ≤ (x6_1 : Int) := of_decide_eq_true (by first | (with_reducible assumption) | assumption)
              have q101 : x6_1 < (l0.length : Int) := of_decide_eq_true (by first | (with_reducible assumption) | assumption)
              obtain ⟨ad101, e101, hx101_0⟩ := at_F64 HR0.out x6_1 p101 q101
              cases e101
              replace p101 := eq_true p101
              replace q101 := eq_true q101
              go_wp2_with (first | ((with_reducible refine gate_callee (f := 16) rfl ?_); refine goesL_ (some 33) rfl rfl Try.func16 (by kernel_rfl) rfl #[.float .f64 (rd_F64 l0 x6_1)] rfl (by (try simp only [List.map_toArray, List.map_cons, List.map_nil]); first | done | rfl | (simp only [List.length_drop, List.length_take]; rfl)) ?_; (with_reducible refine (vivariumref28_small.calls (rd_F64 l0 x6_1) false _ A6.out).mono ?_); rintro e w' ⟨rfl, ⟨nd, rfl⟩⟩; refine ⟨_, rfl, ?_⟩))
              go_ret2
              exact ⟨by first | rfl | (simp; done) | (simp [*]; done), by repeat (first | exact Drawn0.refl _ | apply Drawn0.step)⟩
          · rw [if_neg c5] at H
            exact absurd H (by simp)
        · rw [if_neg c4] at H
          have c4b0 : decide (x6_1 < (l0.length : Int)) = false := decide_eq_false c4
          clear c4
          by_cases c11 : (l0.length : Int) = 0
          · rw [if_pos c11] at H
            have c11b0 : ((l0.length : Int) == 0) = true := beq_iff_eq.mpr c11
            have c11b1 : ((l0.length : Int) != 0) = false := bne_eq_false_iff_eq.mpr c11
            clear c11
            simp only [Option.some.injEq, Prod.mk.injEq] at H
            obtain ⟨rfl, rfl⟩ := H
            go_wp2
            go_ret2
            exact ⟨by first | rfl | (simp; done) | (simp [*]; done), by repeat (first | exact Drawn0.refl _ | apply Drawn0.step)⟩
          · rw [if_neg c11] at H
            have c11b0 : ((l0.length : Int) == 0) = false := beq_eq_false_iff_ne.mpr c11
            have c11b1 : ((l0.length : Int) != 0) = true := bne_iff_ne.mpr c11
            have c11b2 : ¬ (l0 = []) := fun h_ => c11 (by rw [h_]; rfl)
            have H' := Aside0.mk H
            clear H
            go_wp2
            go_loopg [8, 9, 10] k1 (fun kq v8 v9 v10 w' => ∃ (x8_2 : Nat) (x9_2 : Nat) (x10_2 : Int), v8 = .float .f64 x8_2 ∧ v9 = .float .f64 x9_2 ∧ v10 = .int .i64 x10_2 ∧ Aside0 (vivariumref28_Likeness.l1 kq l0 l1 (floatOfInt .f64 (l0.length : Int)) x8_2 x9_2 x10_2 = some (r1, r2)) ∧ Aside0 (kq ≤ k1) ∧ Drawn0 w w')
            case atStart => exact ⟨(0), (0), (0), (by first | rfl | (simp; done) | (simp [*]; done)), (by first | rfl | (simp; done) | (simp [*]; done)), (by first | rfl | (simp; done) | (simp [*]; done)), H', ⟨Nat.le_refl _⟩, by repeat (first | exact Drawn0.refl _ | apply Drawn0.step)⟩
            case round =>
              clear H'
              try clear c1
              try clear p1
              try clear q1
              try clear hx1
              try clear p2
              try clear c3
              try clear c3b0
              try clear c3b1
              try clear c3b2
              try clear c4
              try clear c4b0
              try clear c5
              try clear c5b0
              try clear c6
              try clear p6
              try clear c7
              try clear c8
              try clear c8b0
              try clear c10
              try clear p10
              try clear q10
              try clear hx10
              try clear c11
              try clear c11b0
              try clear c11b1
              try clear c11b2
              try clear hx101_0
              try clear hx103_0
              try clear p101
              try clear p103
              try clear p2
              try clear q101
              try clear q103
              obtain ⟨x8_2, x9_2, x10_2, rfl, rfl, rfl, HA, HK2, ⟨m2, rfl⟩⟩ := hrel
              cases gk with
              | zero => exact absurd HA.out (by simp [vivariumref28_Likeness.l1])
              | succ k2 =>
                have H := HA.out
                clear HA
                simp only [vivariumref28_Likeness.l1] at H
                by_cases c12 : x10_2 < (l0.length : Int)
                · rw [if_pos c12] at H
                  have c12b0 : decide (x10_2 < (l0.length : Int)) = true := decide_eq_true c12
                  clear c12
                  by_cases c13 : 0 ≤ x10_2
                  · rw [if_pos c13] at H
                    have c13b0 : decide (0 ≤ x10_2) = true := decide_eq_true c13
                    clear c13
                    replace H := Option.bind_eq_some_iff.mp H
                    obtain ⟨t106, A140, H⟩ := H
                    replace H : (if x10_2 < (l1.length : Int) then ((fAdd x9_2 (rd_F64 l1 x10_2)).bind fun t108 => (vivariumref28_Likeness.l1 k2 l0 l1 (floatOfInt .f64 (l0.length : Int)) t106 t108 (wrap64 (x10_2 + 1)))) else (none)) = some (r1, r2) := H
                    have A14f := fun (t_ : TypeId) (W_ : World) => run_fAdd (P := Try.prog) A140 t_ W_
                    have A14 := Aside0.mk A140
                    clear A140
                    by_cases c15 : x10_2 < (l1.length : Int)
                    · rw [if_pos c15] at H
                      have c15b0 : decide (x10_2 < (l1.length : Int)) = true := decide_eq_true c15
                      clear c15
                      replace H := Option.bind_eq_some_iff.mp H
                      obtain ⟨t108, A160, H⟩ := H
                      replace H : (vivariumref28_Likeness.l1 k2 l0 l1 (floatOfInt .f64 (l0.length : Int)) t106 t108 (wrap64 (x10_2 + 1))) = some (r1, r2) := H
                      have A16f := fun (t_ : TypeId) (W_ : World) => run_fAdd (P := Try.prog) A160 t_ W_
                      have A16 := Aside0.mk A160
                      clear A160
                      have H' := Aside0.mk H
                      clear H
                      have p105 : 0 ≤ (x10_2 : Int) := of_decide_eq_true (by first | (with_reducible assumption) | assumption)
                      have q105 : x10_2 < (l0.length : Int) := of_decide_eq_true (by first | (with_reducible assumption) | assumption)
                      obtain ⟨ad105, e105, hx105_0⟩ := at_F64 HR0.out x10_2 p105 q105
                      cases e105
                      replace p105 := eq_true p105
                      replace q105 := eq_true q105
                      have p107 : 0 ≤ (x10_2 : Int) := of_decide_eq_true (by first | (with_reducible assumption) | assumption)
                      have q107 : x10_2 < (l1.length : Int) := of_decide_eq_true (by first | (with_reducible assumption) | assumption)
                      obtain ⟨ad107, e107, hx107_0⟩ := at_F64 HR1.out x10_2 p107 q107
                      cases e107
                      replace p107 := eq_true p107
                      replace q107 := eq_true q107
                      go_wp2
                      go_roundg k2
                      case measure => have := HK1.out; have := HK2.out; omega
                      case rel => exact ⟨(t106), (t108), (wrap64 (x10_2 + 1)), (by first | rfl | (simp; done) | (simp [*]; done)), (by first | rfl | (simp; done) | (simp [*]; done)), (by first | rfl | (simp; done) | (simp [*]; done)), H', ⟨by have := HK1.out; have := HK2.out; omega⟩, by repeat (first | exact Drawn0.refl _ | apply Drawn0.step)⟩
                    · rw [if_neg c15] at H
                      exact absurd H (by simp)
                  · rw [if_neg c13] at H
                    exact absurd H (by simp)
                · rw [if_neg c12] at H
                  have c12b0 : decide (x10_2 < (l0.length : Int)) = false := decide_eq_false c12
                  clear c12
                  replace H := Option.bind_eq_some_iff.mp H
                  obtain ⟨t109, A170, H⟩ := H
                  replace H : ((fQuo x9_2 (floatOfInt .f64 (l0.length : Int))).bind fun t110 => (vivariumref28_Likeness.l2 k2 l0 l1 t109 t110 0 0 0 0)) = some (r1, r2) := H
                  have A17f := fun (t_ : TypeId) (W_ : World) => run_fQuo (P := Try.prog) A170 t_ W_
                  have A17 := Aside0.mk A170
                  clear A170
                  replace H := Option.bind_eq_some_iff.mp H
                  obtain ⟨t110, A180, H⟩ := H
                  replace H : (vivariumref28_Likeness.l2 k2 l0 l1 t109 t110 0 0 0 0) = some (r1, r2) := H
                  have A18f := fun (t_ : TypeId) (W_ : World) => run_fQuo (P := Try.prog) A180 t_ W_
                  have A18 := Aside0.mk A180
                  clear A180
                  have H' := Aside0.mk H
                  clear H
                  go_wp2
                  go_loopg [11, 12, 13, 14] k2 (fun kq v11 v12 v13 v14 w' => ∃ (x11_3 : Nat) (x12_3 : Nat) (x13_3 : Nat) (x14_3 : Int), v11 = .float .f64 x11_3 ∧ v12 = .float .f64 x12_3 ∧ v13 = .float .f64 x13_3 ∧ v14 = .int .i64 x14_3 ∧ Aside0 (vivariumref28_Likeness.l2 kq l0 l1 t109 t110 x11_3 x12_3 x13_3 x14_3 = some (r1, r2)) ∧ Aside0 (kq ≤ k2) ∧ Drawn0 w w')
                  case atStart => exact ⟨(0), (0), (0), (0), (by first | rfl | (simp; done) | (simp [*]; done)), (by first | rfl | (simp; done) | (simp [*]; done)), (by first | rfl | (simp; done) | (simp [*]; done)), (by first | rfl | (simp; done) | (simp [*]; done)), H', ⟨Nat.le_refl _⟩, by repeat (first | exact Drawn0.refl _ | apply Drawn0.step)⟩
                  case round =>
                    clear H'
                    try clear c1
                    try clear p1
                    try clear q1
                    try clear hx1
                    try clear p2
                    try clear c3
                    try clear c3b0
                    try clear c3b1
                    try clear c3b2
                    try clear c4
                    try clear c4b0
                    try clear c5
                    try clear c5b0
                    try clear c6
                    try clear p6
                    try clear c7
                    try clear c8
                    try clear c8b0
                    try clear c10
                    try clear p10
                    try clear q10
                    try clear hx10
                    try clear c11
                    try clear c11b0
                    try clear c11b1
                    try clear c11b2
                    try clear c12
                    try clear c12b0
                    try clear c13
                    try clear c13b0
                    try clear c15
                    try clear c15b0
                    try clear c16
                    try clear hx101_0
                    try clear hx103_0
                    try clear hx105_0
                    try clear hx107_0
                    try clear p1
                    try clear p10
                    try clear p101
                    try clear p103
                    try clear p105
                    try clear p107
                    try clear p2
                    try clear p6
                    try clear q1
                    try clear q10
                    try clear q101
                    try clear q103
                    try clear q105
                    try clear q107
                    obtain ⟨x11_3, x12_3, x13_3, x14_3, rfl, rfl, rfl, rfl, HA, HK3, ⟨m3, rfl⟩⟩ := hrel
                    cases gk with
                    | zero => exact absurd HA.out (by simp [vivariumref28_Likeness.l2])
                    | succ k3 =>
                      have H := HA.out
                      clear HA
                      simp only [vivariumref28_Likeness.l2] at H
                      by_cases c19 : x14_3 < (l0.length : Int)
                      · rw [if_pos c19] at H
                        have c19b0 : decide (x14_3 < (l0.length : Int)) = true := decide_eq_true c19
                        clear c19
                        by_cases c20 : 0 ≤ x14_3
                        · rw [if_pos c20] at H
                          have c20b0 : decide (0 ≤ x14_3) = true := decide_eq_true c20
                          clear c20
                          replace H := Option.bind_eq_some_iff.mp H
                          obtain ⟨t112, A210, H⟩ := H
                          replace H : (if x14_3 < (l1.length : Int) then ((fSub (rd_F64 l1 x14_3) t110).bind fun t114 => ((fMul t112 t114).bind fun t115 => ((fAdd x11_3 t115).bind fun t116 => ((fMul t112 t112).bind fun t117 => ((fAdd x12_3 t117).bind fun t118 => ((fMul t114 t114).bind fun t119 => ((fAdd x13_3 t119).bind fun t120 => (vivariumref28_Likeness.l2 k3 l0 l1 t109 t110 t116 t118 t120 (wrap64 (x14_3 + 1)))))))))) else (none)) = some (r1, r2) := H
                          have A21f := fun (t_ : TypeId) (W_ : World) => run_fSub (P := Try.prog) A210 t_ W_
                          have A21 := Aside0.mk A210
                          clear A210
                          by_cases c22 : x14_3 < (l1.length : Int)
                          · rw [if_pos c22] at H
                            have c22b0 : decide (x14_3 < (l1.length : Int)) = true := decide_eq_true c22
                            clear c22
                            replace H := Option.bind_eq_some_iff.mp H
                            obtain ⟨t114, A230, H⟩ := H
                            replace H : ((fMul t112 t114).bind fun t115 => ((fAdd x11_3 t115).bind fun t116 => ((fMul t112 t112).bind fun t117 => ((fAdd x12_3 t117).bind fun t118 => ((fMul t114 t114).bind fun t119 => ((fAdd x13_3 t119).bind fun t120 => (vivariumref28_Likeness.l2 k3 l0 l1 t109 t110 t116 t118 t120 (wrap64 (x14_3 + 1))))))))) = some (r1, r2) := H
                            have A23f := fun (t_ : TypeId) (W_ : World) => run_fSub (P := Try.prog) A230 t_ W_
                            have A23 := Aside0.mk A230
                            clear A230
                            replace H := Option.bind_eq_some_iff.mp H
                            obtain ⟨t115, A240, H⟩ := H
                            replace H : ((fAdd x11_3 t115).bind fun t116 => ((fMul t112 t112).bind fun t117 => ((fAdd x12_3 t117).bind fun t118 => ((fMul t114 t114).bind fun t119 => ((fAdd x13_3 t119).bind fun t120 => (vivariumref28_Likeness.l2 k3 l0 l1 t109 t110 t116 t118 t120 (wrap64 (x14_3 + 1)))))))) = some (r1, r2) := H
                            have A24f := fun (t_ : TypeId) (W_ : World) => run_fMul (P := Try.prog) A240 t_ W_
                            have A24 := Aside0.mk A240
                            clear A240
                            replace H := Option.bind_eq_some_iff.mp H
                            obtain ⟨t116, A250, H⟩ := H
                            replace H : ((fMul t112 t112).bind fun t117 => ((fAdd x12_3 t117).bind fun t118 => ((fMul t114 t114).bind fun t119 => ((fAdd x13_3 t119).bind fun t120 => (vivariumref28_Likeness.l2 k3 l0 l1 t109 t110 t116 t118 t120 (wrap64 (x14_3 + 1))))))) = some (r1, r2) := H
                            have A25f := fun (t_ : TypeId) (W_ : World) => run_fAdd (P := Try.prog) A250 t_ W_
                            have A25 := Aside0.mk A250
                            clear A250
                            replace H := Option.bind_eq_some_iff.mp H
                            obtain ⟨t117, A260, H⟩ := H
                            replace H : ((fAdd x12_3 t117).bind fun t118 => ((fMul t114 t114).bind fun t119 => ((fAdd x13_3 t119).bind fun t120 => (vivariumref28_Likeness.l2 k3 l0 l1 t109 t110 t116 t118 t120 (wrap64 (x14_3 + 1)))))) = some (r1, r2) := H
                            have A26f := fun (t_ : TypeId) (W_ : World) => run_fMul (P := Try.prog) A260 t_ W_
                            have A26 := Aside0.mk A260
                            clear A260
                            replace H := Option.bind_eq_some_iff.mp H
                            obtain ⟨t118, A270, H⟩ := H
                            replace H : ((fMul t114 t114).bind fun t119 => ((fAdd x13_3 t119).bind fun t120 => (vivariumref28_Likeness.l2 k3 l0 l1 t109 t110 t116 t118 t120 (wrap64 (x14_3 + 1))))) = some (r1, r2) := H
                            have A27f := fun (t_ : TypeId) (W_ : World) => run_fAdd (P := Try.prog) A270 t_ W_
                            have A27 := Aside0.mk A270
                            clear A270
                            replace H := Option.bind_eq_some_iff.mp H
                            obtain ⟨t119, A280, H⟩ := H
                            replace H : ((fAdd x13_3 t119).bind fun t120 => (vivariumref28_Likeness.l2 k3 l0 l1 t109 t110 t116 t118 t120 (wrap64 (x14_3 + 1)))) = some (r1, r2) := H
                            have A28f := fun (t_ : TypeId) (W_ : World) => run_fMul (P := Try.prog) A280 t_ W_
                            have A28 := Aside0.mk A280
                            clear A280
                            replace H := Option.bind_eq_some_iff.mp H
                            obtain ⟨t120, A290, H⟩ := H
                            replace H : (vivariumref28_Likeness.l2 k3 l0 l1 t109 t110 t116 t118 t120 (wrap64 (x14_3 + 1))) = some (r1, r2) := H
                            have A29f := fun (t_ : TypeId) (W_ : World) => run_fAdd (P := Try.prog) A290 t_ W_
                            have A29 := Aside0.mk A290
                            clear A290
                            have H' := Aside0.mk H
                            clear H
                            have p111 : 0 ≤ (x14_3 : Int) := of_decide_eq_true (by first | (with_reducible assumption) | assumption)
                            have q111 : x14_3 < (l0.length : Int) := of_decide_eq_true (by first | (with_reducible assumption) | assumption)
                            obtain ⟨ad111, e111, hx111_0⟩ := at_F64 HR0.out x14_3 p111 q111
                            cases e111
                            replace p111 := eq_true p111
                            replace q111 := eq_true q111
                            have p113 : 0 ≤ (x14_3 : Int) := of_decide_eq_true (by first | (with_reducible assumption) | assumption)
                            have q113 : x14_3 < (l1.length : Int) := of_decide_eq_true (by first | (with_reducible assumption) | assumption)
                            obtain ⟨ad113, e113, hx113_0⟩ := at_F64 HR1.out x14_3 p113 q113
                            cases e113
                            replace p113 := eq_true p113
                            replace q113 := eq_true q113
                            go_wp2
                            go_roundg k3
                            case measure => have := HK1.out; have := HK2.out; have := HK3.out; omega
                            case rel => exact ⟨(t116), (t118), (t120), (wrap64 (x14_3 + 1)), (by first | rfl | (simp; done) | (simp [*]; done)), (by first | rfl | (simp; done) | (simp [*]; done)), (by first | rfl | (simp; done) | (simp [*]; done)), (by first | rfl | (simp; done) | (simp [*]; done)), H', ⟨by have := HK1.out; have := HK2.out; have := HK3.out; omega⟩, by repeat (first | exact Drawn0.refl _ | apply Drawn0.step)⟩
                          · rw [if_neg c22] at H
                            exact absurd H (by simp)
                        · rw [if_neg c20] at H
                          exact absurd H (by simp)
                      · rw [if_neg c19] at H
                        have c19b0 : decide (x14_3 < (l0.length : Int)) = false := decide_eq_false c19
                        clear c19
                        have HC30 := Aside0.mk H
                        clear H
                        go_upto_region 28 with (fail)
                        go_cut [111] (fun v111 wc => ∃ (kq : Nat) (x111_29 : Bool), v111 = .bool x111_29 ∧ Aside0 (vivariumref28_Likeness.j3 kq x11_3 x12_3 x13_3 x111_29 = some (r1, r2)) ∧ Aside0 (kq ≤ k3) ∧ Drawn0 w wc)
                        case first =>
                          have H := HC30.out
                          clear HC30
                          by_cases c31 : (fEq x12_3 0) = true
                          · rw [if_pos c31] at H
                            have c31b0 : (fEq x12_3 0) = true := c31
                            clear c31
                            (first | rw [c31b0] | (simp only [i64_w, i32_w]; rw [c31b0]) | skip)
                            have H' := Aside0.mk H
                            clear H
                            go_wp2
                            go_meet
                            case rel => exact ⟨_, (true), (by first | rfl | (simp; done) | (simp [*]; done)), H', ⟨by have := HK1.out; have := HK2.out; have := HK3.out; first | omega | exact Nat.le_refl _⟩, by repeat (first | exact Drawn0.refl _ | apply Drawn0.step)⟩
                          · rw [if_neg c31] at H
                            have c31b0 : (fEq x12_3 0) = false := by simpa using c31
                            clear c31
                            (first | rw [c31b0] | (simp only [i64_w, i32_w]; rw [c31b0]) | skip)
                            have H' := Aside0.mk H
                            clear H
                            go_wp2
                            go_meet
                            case rel => exact ⟨_, ((fEq x13_3 0)), (by first | rfl | (simp; done) | (simp [*]; done)), H', ⟨by have := HK1.out; have := HK2.out; have := HK3.out; first | omega | exact Nat.le_refl _⟩, by repeat (first | exact Drawn0.refl _ | apply Drawn0.step)⟩
                        case rest =>
                          clear HC30
                          try clear c1
                          try clear p1
                          try clear q1
                          try clear hx1
                          try clear c2
                          try clear p2
                          try clear c3
                          try clear c3b0
                          try clear c3b1
                          try clear c3b2
                          try clear c4
                          try clear c4b0
                          try clear c5
                          try clear c5b0
                          try clear c6
                          try clear p6
                          try clear c7
                          try clear c8
                          try clear c8b0
                          try clear c10
                          try clear p10
                          try clear q10
                          try clear hx10
                          try clear c11
                          try clear c11b0
                          try clear c11b1
                          try clear c11b2
                          try clear p11
                          try clear q11
                          try clear hx11
                          try clear c12
                          try clear c12b0
                          try clear c13
                          try clear c13b0
                          try clear c15
                          try clear c15b0
                          try clear c16
                          try clear c19
                          try clear c19b0
                          try clear c20
                          try clear c20b0
                          try clear c22
                          try clear c22b0
                          try clear c31
                          try clear c31b0
                          try clear hx101_0
                          try clear hx103_0
                          try clear hx105_0
                          try clear hx107_0
                          try clear hx111_0
                          try clear hx113_0
                          try clear p1
                          try clear p10
                          try clear p101
                          try clear p103
                          try clear p105
                          try clear p107
                          try clear p111
                          try clear p113
                          try clear p2
                          try clear p6
                          try clear q1
                          try clear q10
                          try clear q101
                          try clear q103
                          try clear q105
                          try clear q107
                          try clear q111
                          try clear q113
                          obtain ⟨kq, x111_29, rfl, HA, HJ29, ⟨mc29, rfl⟩⟩ := hcut
                          cases kq with
                          | zero => exact absurd HA.out (by simp [vivariumref28_Likeness.j3])
                          | succ kj29 =>
                            have H := HA.out
                            clear HA
                            simp only [vivariumref28_Likeness.j3] at H
                            by_cases c32 : x111_29 = true
                            · subst c32
                              have H1 : (some (0, 0)) = some (r1, r2) := by rw [if_pos rfl] at H; exact H
                              clear H
                              have H := H1
                              clear H1
                              simp only [Option.some.injEq, Prod.mk.injEq] at H
                              obtain ⟨rfl, rfl⟩ := H
                              go_wp2
                              go_ret2
                              exact ⟨by first | rfl | (simp; done) | (simp [*]; done), by repeat (first | exact Drawn0.refl _ | apply Drawn0.step)⟩
                            · replace c32 := Bool.eq_false_iff.mpr c32
                              subst c32
                              have H1 : ((math_Sqrt.f x12_3).bind fun t121 => ((math_Sqrt.f x13_3).bind fun t122 => ((fMul t121 t122).bind fun t123 => ((fQuo x11_3 t123).bind fun t124 => (if (fGt t124 4607182418800017408) = true then (some (4607182418800017408, 0)) else (if (fLt t124 13830554455654793216) = true then (some (13830554455654793216, 0)) else (some (t124, 0)))))))) = some (r1, r2) := by rw [if_neg (show ¬ (false = true) by decide)] at H; exact H
                              clear H
                              have H := H1
                              clear H1
                              replace H := Option.bind_eq_some_iff.mp H
                              obtain ⟨t121, A330, H⟩ := H
                              replace H : ((math_Sqrt.f x13_3).bind fun t122 => ((fMul t121 t122).bind fun t123 => ((fQuo x11_3 t123).bind fun t124 => (if (fGt t124 4607182418800017408) = true then (some (4607182418800017408, 0)) else (if (fLt t124 13830554455654793216) = true then (some (13830554455654793216, 0)) else (some (t124, 0))))))) = some (r1, r2) := H
                              have A33 := Aside0.mk A330
                              clear A330
                              replace H := Option.bind_eq_some_iff.mp H
                              obtain ⟨t122, A340, H⟩ := H
                              replace H : ((fMul t121 t122).bind fun t123 => ((fQuo x11_3 t123).bind fun t124 => (if (fGt t124 4607182418800017408) = true then (some (4607182418800017408, 0)) else (if (fLt t124 13830554455654793216) = true then (some (13830554455654793216, 0)) else (some (t124, 0)))))) = some (r1, r2) := H
                              have A34 := Aside0.mk A340
                              clear A340
                              replace H := Option.bind_eq_some_iff.mp H
                              obtain ⟨t123, A350, H⟩ := H
                              replace H : ((fQuo x11_3 t123).bind fun t124 => (if (fGt t124 4607182418800017408) = true then (some (4607182418800017408, 0)) else (if (fLt t124 13830554455654793216) = true then (some (13830554455654793216, 0)) else (some (t124, 0))))) = some (r1, r2) := H
                              have A35f := fun (t_ : TypeId) (W_ : World) => run_fMul (P := Try.prog) A350 t_ W_
                              have A35 := Aside0.mk A350
                              clear A350
                              replace H := Option.bind_eq_some_iff.mp H
                              obtain ⟨t124, A360, H⟩ := H
                              replace H : (if (fGt t124 4607182418800017408) = true then (some (4607182418800017408, 0)) else (if (fLt t124 13830554455654793216) = true then (some (13830554455654793216, 0)) else (some (t124, 0)))) = some (r1, r2) := H
                              have A36f := fun (t_ : TypeId) (W_ : World) => run_fQuo (P := Try.prog) A360 t_ W_
                              have A36 := Aside0.mk A360
                              clear A360
                              by_cases c37 : (fGt t124 4607182418800017408) = true
                              · rw [if_pos c37] at H
                                have c37b0 : (fGt t124 4607182418800017408) = true := c37
                                clear c37
                                simp only [Option.some.injEq, Prod.mk.injEq] at H
                                obtain ⟨rfl, rfl⟩ := H
                                go_wp2_with (first | ((with_reducible refine gate_callee (f := 17) rfl ?_); refine goesL_ (some 114) rfl rfl Try.func17 (by kernel_rfl) rfl #[.float .f64 x12_3] rfl (by (try simp only [List.map_toArray, List.map_cons, List.map_nil]); first | done | rfl | (simp only [List.length_drop, List.length_take]; rfl)) ?_; (with_reducible refine (math_Sqrt.calls x12_3 t121 _ A33.out).mono ?_); rintro e w' ⟨rfl, ⟨nd, rfl⟩⟩; refine ⟨_, rfl, ?_⟩) | ((with_reducible refine gate_callee (f := 17) rfl ?_); refine goesL_ (some 116) rfl rfl Try.func17 (by kernel_rfl) rfl #[.float .f64 x13_3] rfl (by (try simp only [List.map_toArray, List.map_cons, List.map_nil]); first | done | rfl | (simp only [List.length_drop, List.length_take]; rfl)) ?_; (with_reducible refine (math_Sqrt.calls x13_3 t122 _ A34.out).mono ?_); rintro e w' ⟨rfl, ⟨nd, rfl⟩⟩; refine ⟨_, rfl, ?_⟩))
                                go_ret2
                                exact ⟨by first | rfl | (simp; done) | (simp [*]; done), by repeat (first | exact Drawn0.refl _ | apply Drawn0.step)⟩
                              · rw [if_neg c37] at H
                                have c37b0 : (fGt t124 4607182418800017408) = false := by simpa using c37
                                clear c37
                                by_cases c38 : (fLt t124 13830554455654793216) = true
                                · rw [if_pos c38] at H
                                  have c38b0 : (fLt t124 13830554455654793216) = true := c38
                                  clear c38
                                  simp only [Option.some.injEq, Prod.mk.injEq] at H
                                  obtain ⟨rfl, rfl⟩ := H
                                  go_wp2_with (first | ((with_reducible refine gate_callee (f := 17) rfl ?_); refine goesL_ (some 114) rfl rfl Try.func17 (by kernel_rfl) rfl #[.float .f64 x12_3] rfl (by (try simp only [List.map_toArray, List.map_cons, List.map_nil]); first | done | rfl | (simp only [List.length_drop, List.length_take]; rfl)) ?_; (with_reducible refine (math_Sqrt.calls x12_3 t121 _ A33.out).mono ?_); rintro e w' ⟨rfl, ⟨nd, rfl⟩⟩; refine ⟨_, rfl, ?_⟩) | ((with_reducible refine gate_callee (f := 17) rfl ?_); refine goesL_ (some 116) rfl rfl Try.func17 (by kernel_rfl) rfl #[.float .f64 x13_3] rfl (by (try simp only [List.map_toArray, List.map_cons, List.map_nil]); first | done | rfl | (simp only [List.length_drop, List.length_take]; rfl)) ?_; (with_reducible refine (math_Sqrt.calls x13_3 t122 _ A34.out).mono ?_); rintro e w' ⟨rfl, ⟨nd, rfl⟩⟩; refine ⟨_, rfl, ?_⟩))
                                  go_ret2
                                  exact ⟨by first | rfl | (simp; done) | (simp [*]; done), by repeat (first | exact Drawn0.refl _ | apply Drawn0.step)⟩
                                · rw [if_neg c38] at H
                                  have c38b0 : (fLt t124 13830554455654793216) = false := by simpa using c38
                                  clear c38
                                  simp only [Option.some.injEq, Prod.mk.injEq] at H
                                  obtain ⟨rfl, rfl⟩ := H
                                  go_wp2_with (first | ((with_reducible refine gate_callee (f := 17) rfl ?_); refine goesL_ (some 114) rfl rfl Try.func17 (by kernel_rfl) rfl #[.float .f64 x12_3] rfl (by (try simp only [List.map_toArray, List.map_cons, List.map_nil]); first | done | rfl | (simp only [List.length_drop, List.length_take]; rfl)) ?_; (with_reducible refine (math_Sqrt.calls x12_3 t121 _ A33.out).mono ?_); rintro e w' ⟨rfl, ⟨nd, rfl⟩⟩; refine ⟨_, rfl, ?_⟩) | ((with_reducible refine gate_callee (f := 17) rfl ?_); refine goesL_ (some 116) rfl rfl Try.func17 (by kernel_rfl) rfl #[.float .f64 x13_3] rfl (by (try simp only [List.map_toArray, List.map_cons, List.map_nil]); first | done | rfl | (simp only [List.length_drop, List.length_take]; rfl)) ?_; (with_reducible refine (math_Sqrt.calls x13_3 t122 _ A34.out).mono ?_); rintro e w' ⟨rfl, ⟨nd, rfl⟩⟩; refine ⟨_, rfl, ?_⟩))
                                  go_ret2
                                  exact ⟨by first | rfl | (simp; done) | (simp [*]; done), by repeat (first | exact Drawn0.refl _ | apply Drawn0.step)⟩
  · rw [if_neg c3] at H
    have c3b0 : ((l0.length : Int) == (l1.length : Int)) = false := beq_eq_false_iff_ne.mpr c3
    have c3b1 : ((l0.length : Int) != (l1.length : Int)) = true := bne_iff_ne.mpr c3
    have c3b2 : (l0.length == l1.length) = false := by first | simpa using c3 | (simp at c3 ⊢; omega)
    simp only [Option.some.injEq, Prod.mk.injEq] at H
    obtain ⟨rfl, rfl⟩ := H
    go_enter Try.func6, Try.ntmps6
    go_wp2
    go_ret2
    exact ⟨by first | rfl | (simp; done) | (simp [*]; done), by repeat (first | exact Drawn0.refl _ | apply Drawn0.step)⟩

/-! ### census_usual: function 18 -/
def census_usual.f (a0 : Nat) : Option (Bool) := if (fEq a0 a0) = true then (if (fLe a0 4787326403894837248) = true then (some (fGe a0 14010698440749613056)) else (some false)) else (some false)
set_option maxHeartbeats 8000000 in
set_option maxRecDepth 100000 in
theorem census_usual.calls (a0 : Nat) (r : Bool) (w : World) (h : census_usual.f a0 = some r) :
    Calls Try.prog 18 #[.float .f64 a0] w fun e w' => e = .returned (.bool r) ∧ Drawn0 w w' := by
  have H : (if (fEq a0 a0) = true then (if (fLe a0 4787326403894837248) = true then (some (fGe a0 14010698440749613056)) else (some false)) else (some false)) = some r := h
  clear h
  by_cases c2 : (fEq a0 a0) = true
  · rw [if_pos c2] at H
    have c2b0 : (fEq a0 a0) = true := c2
    clear c2
    by_cases c3 : (fLe a0 4787326403894837248) = true
    · rw [if_pos c3] at H
      have c3b0 : (fLe a0 4787326403894837248) = true := c3
      clear c3
      obtain rfl := Option.some.inj H
      go_enter Try.func18, Try.ntmps18
      go_wp2
      go_ret
      exact ⟨by first | rfl | (simp; done) | (simp [*]; done), by repeat (first | exact Drawn0.refl _ | apply Drawn0.step)⟩
    · rw [if_neg c3] at H
      have c3b0 : (fLe a0 4787326403894837248) = false := by simpa using c3
      clear c3
      obtain rfl := Option.some.inj H
      go_enter Try.func18, Try.ntmps18
      go_wp2
      go_ret
      exact ⟨by first | rfl | (simp; done) | (simp [*]; done), by repeat (first | exact Drawn0.refl _ | apply Drawn0.step)⟩
  · rw [if_neg c2] at H
    have c2b0 : (fEq a0 a0) = false := by simpa using c2
    clear c2
    obtain rfl := Option.some.inj H
    go_enter Try.func18, Try.ntmps18
    go_wp2
    go_ret
    exact ⟨by first | rfl | (simp; done) | (simp [*]; done), by repeat (first | exact Drawn0.refl _ | apply Drawn0.step)⟩

end Go.Proofs.Ytkmcaoheehkflaa.Lk
