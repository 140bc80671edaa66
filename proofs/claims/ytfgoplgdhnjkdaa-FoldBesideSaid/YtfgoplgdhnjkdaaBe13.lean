/- The machine's side of Go functions of this seat: for each a Lean function and a proof that the call comes to what it says. Written by a program of this session (wip/xp) for this claim. -/
import Derived.Test.YtfgoplgdhnjkdaaBe0
import Derived.Test.YtfgoplgdhnjkdaaBe1
import Derived.Test.YtfgoplgdhnjkdaaBe4
import Derived.Test.YtfgoplgdhnjkdaaBe5
import Derived.Test.YtfgoplgdhnjkdaaBe6
import Derived.Test.YtfgoplgdhnjkdaaBe7
import Derived.Test.YtfgoplgdhnjkdaaBe12
namespace Go.Proofs.Ytfgoplgdhnjkdaa.Be
open Go.RowKit Go.Proofs.YtfgoplgdhnjkdaaW.PrintWords Go.Proofs.YtfgoplgdhnjkdaaW.PrintLast Go.Proofs.YtfgoplgdhnjkdaaW.PrintMore
attribute [local go_sem] max2_int min2_int max_two min_two max_three min_three max_four min_four   -- for this text's walks alone
open Go.Proofs.YtfgoplgdhnjkdaaW.XWords
attribute [local go_sem high] binOp_fEq binOp_fNe binOp_fLt binOp_fLe binOp_fGt binOp_fGe binOp_cEq binOp_cNe unOp_fNeg unOp_cNeg equalIn_f64 equalIn_c128
attribute [local go_sem] run_real run_imag run_complex run_store_f64 run_store_c128 run_store_fn
set_option linter.unusedVariables false
set_option linter.unusedSimpArgs false

attribute [local go_sem high] eqA33
/-! ### vivariumlaw06_FoldBeside: function 3 -/
mutual
def vivariumlaw06_FoldBeside.j0 : Nat → Bool → Bool → Int → Int → Int → Int → Int → Option (Bool)
  | 0, _, _, _, _, _, _, _ => none
  | k + 1, x3, x47, x386000, x386001, x386002, x386003, x386004 => if x47 = true then (some x3) else ((topo_Home.f k x386000 x386001 x386002 x386003 x386004).bind fun bt388 => (if x3 = true then (if bt388.2.2.2.2 = 0 then (if bt388.2.2.1 = x386001 then (vivariumlaw06_FoldBeside.j1 k (bt388.2.2.2.1 != x386002) x386000 x386001 x386002 x386003 x386004 bt388.1 bt388.2.1 bt388.2.2.1 bt388.2.2.2.1) else (none)) else (none)) else (none)))
def vivariumlaw06_FoldBeside.j1 : Nat → Bool → Int → Int → Int → Int → Int → Int → Int → Int → Int → Option (Bool)
  | 0, _, _, _, _, _, _, _, _, _, _ => none
  | k + 1, x73, x386000, x386001, x386002, x386003, x386004, x394000, x394001, x394002, x394003 => if x73 = true then (none) else (if 0 ≤ (wrap64 ((wrap64 (x386001 * x386002)) * (wrap64 (x386001 * x386002)))) then (if (wrap64 ((wrap64 (x386001 * x386002)) * (wrap64 (x386001 * x386002))) : Int).toNat ≤ 35184372088832 then (vivariumlaw06_FoldBeside.l0 k (wrap64 (x386001 * x386002)) (List.replicate (wrap64 ((wrap64 (x386001 * x386002)) * (wrap64 (x386001 * x386002))) : Int).toNat 0) 0 x386000 x386001 x386002 x386003 x386004 x394000 x394001 x394002 x394003) else (none)) else (none))
def vivariumlaw06_FoldBeside.l0 : Nat → Int → List Int → Int → Int → Int → Int → Int → Int → Int → Int → Int → Int → Option (Bool)
  | 0, _, _, _, _, _, _, _, _, _, _, _, _ => none
  | k + 1, x6, x7, x8, x386000, x386001, x386002, x386003, x386004, x394000, x394001, x394002, x394003 => if x8 < x6 then (if x386001 = 0 then (none) else ((fold_Ring.f k x386000 x386001 x386002 x386003 x386004 (wrap64 (x394000 + (Int.tmod x8 x386001))) (wrap64 (x394001 + (wrap64 (Int.tdiv x8 x386001))))).bind fun bt398 => (if bt398.2.2.2 = 0 then (if bt398.2.2.1 = true then (vivariumlaw06_FoldBeside.j3 k x6 x7 x8 (!(bt398.1 == (wrap64 (x394000 + (Int.tmod x8 x386001)))) || (!(bt398.2.1 == (wrap64 (x394001 + (wrap64 (Int.tdiv x8 x386001))))))) x386000 x386001 x386002 x386003 x386004 x394000 x394001 x394002 x394003 (wrap64 (x394000 + (Int.tmod x8 x386001))) (wrap64 (x394001 + (wrap64 (Int.tdiv x8 x386001))))) else (none)) else (none)))) else (vivariumlaw06_FoldBeside.l2 k x6 x7 0)
def vivariumlaw06_FoldBeside.j3 : Nat → Int → List Int → Int → Bool → Int → Int → Int → Int → Int → Int → Int → Int → Int → Int → Int → Option (Bool)
  | 0, _, _, _, _, _, _, _, _, _, _, _, _, _, _, _ => none
  | k + 1, x6, x7, x8, x120, x386000, x386001, x386002, x386003, x386004, x394000, x394001, x394002, x394003, x398000, x398001 => if x120 = true then (none) else (vivariumlaw06_FoldBeside.l1 k x6 x7 x8 0 x386000 x386001 x386002 x386003 x386004 x394000 x394001 x394002 x394003 x398000 x398001)
def vivariumlaw06_FoldBeside.l1 : Nat → Int → List Int → Int → Int → Int → Int → Int → Int → Int → Int → Int → Int → Int → Int → Int → Option (Bool)
  | 0, _, _, _, _, _, _, _, _, _, _, _, _, _, _, _ => none
  | k + 1, x6, x7, x8, x13, x386000, x386001, x386002, x386003, x386004, x394000, x394001, x394002, x394003, x398000, x398001 => if x13 < 9 then ((fold_Ring.f k x386000 x386001 x386002 x386003 x386004 (wrap64 ((wrap64 (x398000 + (Int.tmod x13 3))) - 1)) (wrap64 ((wrap64 (x398001 + (wrap64 (Int.tdiv x13 3)))) - 1))).bind fun bt404 => (if bt404.2.2.2 = 0 then (if bt404.2.2.1 = true then (vivariumlaw06_FoldBeside.j5 k x6 x7 x8 x13 bt404.2.2.1 false x386000 x386001 x386002 x386003 x386004 x394000 x394001 x394002 x394003 x398000 x398001 (wrap64 ((wrap64 (x398000 + (Int.tmod x13 3))) - 1)) (wrap64 ((wrap64 (x398001 + (wrap64 (Int.tdiv x13 3)))) - 1)) bt404.1 bt404.2.1) else (vivariumlaw06_FoldBeside.j5 k x6 x7 x8 x13 bt404.2.2.1 (x386000 != 1) x386000 x386001 x386002 x386003 x386004 x394000 x394001 x394002 x394003 x398000 x398001 (wrap64 ((wrap64 (x398000 + (Int.tmod x13 3))) - 1)) (wrap64 ((wrap64 (x398001 + (wrap64 (Int.tdiv x13 3)))) - 1)) bt404.1 bt404.2.1)) else (none))) else (vivariumlaw06_FoldBeside.l0 k x6 x7 (wrap64 (x8 + 1)) x386000 x386001 x386002 x386003 x386004 x394000 x394001 x394002 x394003)
def vivariumlaw06_FoldBeside.j5 : Nat → Int → List Int → Int → Int → Bool → Bool → Int → Int → Int → Int → Int → Int → Int → Int → Int → Int → Int → Int → Int → Int → Int → Option (Bool)
  | 0, _, _, _, _, _, _, _, _, _, _, _, _, _, _, _, _, _, _, _, _, _ => none
  | k + 1, x6, x7, x8, x13, x16, x155, x386000, x386001, x386002, x386003, x386004, x394000, x394001, x394002, x394003, x398000, x398001, x404000, x404001, x409000, x409001 => if x155 = true then (none) else ((fold_Cell.f k x386000 x386001 x386002 x386003 x386004 x404000 x404001).bind fun bt409 => ((vivariumlaw06_glued.f k x386000 x386001 x386002 x386003 x386004).bind fun t413 => (if t413 = true then (if bt409.2.2 = 0 then (vivariumlaw06_FoldBeside.j6 k x6 x7 x8 x13 x16 (!(bt409.1 == x409000) || (!(bt409.2.1 == x409001))) x386000 x386001 x386002 x386003 x386004 x394000 x394001 x394002 x394003 x398000 x398001 x409000 x409001) else (none)) else (vivariumlaw06_FoldBeside.j6 k x6 x7 x8 x13 x16 false x386000 x386001 x386002 x386003 x386004 x394000 x394001 x394002 x394003 x398000 x398001 x409000 x409001))))
def vivariumlaw06_FoldBeside.j6 : Nat → Int → List Int → Int → Int → Bool → Bool → Int → Int → Int → Int → Int → Int → Int → Int → Int → Int → Int → Int → Int → Option (Bool)
  | 0, _, _, _, _, _, _, _, _, _, _, _, _, _, _, _, _, _, _, _ => none
  | k + 1, x6, x7, x8, x13, x16, x172, x386000, x386001, x386002, x386003, x386004, x394000, x394001, x394002, x394003, x398000, x398001, x409000, x409001 => if x172 = true then (none) else (if x16 = true then (if x409000 < x394000 then (none) else (if x409000 ≥ (wrap64 (x394000 + x386001)) then (none) else (if (wrap64 ((wrap64 (x409000 - x394000)) + (wrap64 (x386001 * (wrap64 (x409001 - x394001)))))) < 0 then (none) else (vivariumlaw06_FoldBeside.j7 k x6 x7 x8 x13 x16 (wrap64 ((wrap64 (x409000 - x394000)) + (wrap64 (x386001 * (wrap64 (x409001 - x394001)))))) (decide ((wrap64 ((wrap64 (x409000 - x394000)) + (wrap64 (x386001 * (wrap64 (x409001 - x394001)))))) ≥ x6)) x386000 x386001 x386002 x386003 x386004 x394000 x394001 x394002 x394003 x398000 x398001)))) else (vivariumlaw06_FoldBeside.j7 k x6 x7 x8 x13 x16 (wrap64 ((wrap64 (x409000 - x394000)) + (wrap64 (x386001 * (wrap64 (x409001 - x394001)))))) false x386000 x386001 x386002 x386003 x386004 x394000 x394001 x394002 x394003 x398000 x398001))
def vivariumlaw06_FoldBeside.j7 : Nat → Int → List Int → Int → Int → Bool → Int → Bool → Int → Int → Int → Int → Int → Int → Int → Int → Int → Int → Int → Option (Bool)
  | 0, _, _, _, _, _, _, _, _, _, _, _, _, _, _, _, _, _, _ => none
  | k + 1, x6, x7, x8, x13, x16, x20, x213, x386000, x386001, x386002, x386003, x386004, x394000, x394001, x394002, x394003, x398000, x398001 => if x213 = true then (none) else (if x16 = true then (if x13 = 4 then (vivariumlaw06_FoldBeside.l1 k x6 x7 x8 (wrap64 (x13 + 1)) x386000 x386001 x386002 x386003 x386004 x394000 x394001 x394002 x394003 x398000 x398001) else (if 0 ≤ (wrap64 ((wrap64 (x6 * x8)) + x20)) then (if (wrap64 ((wrap64 (x6 * x8)) + x20)) < (x7.length : Int) then (vivariumlaw06_FoldBeside.l1 k x6 (x7.set ((wrap64 ((wrap64 (x6 * x8)) + x20)) : Int).toNat (wrap64 ((rd x7 (wrap64 ((wrap64 (x6 * x8)) + x20))) + 1))) x8 (wrap64 (x13 + 1)) x386000 x386001 x386002 x386003 x386004 x394000 x394001 x394002 x394003 x398000 x398001) else (none)) else (none))) else (vivariumlaw06_FoldBeside.l1 k x6 x7 x8 (wrap64 (x13 + 1)) x386000 x386001 x386002 x386003 x386004 x394000 x394001 x394002 x394003 x398000 x398001))
def vivariumlaw06_FoldBeside.l2 : Nat → Int → List Int → Int → Option (Bool)
  | 0, _, _, _ => none
  | k + 1, x6, x7, x21 => if x21 < x6 then (vivariumlaw06_FoldBeside.l3 k x6 x7 x21 0) else (some true)
def vivariumlaw06_FoldBeside.l3 : Nat → Int → List Int → Int → Int → Option (Bool)
  | 0, _, _, _, _ => none
  | k + 1, x6, x7, x21, x22 => if x22 < x6 then (if 0 ≤ (wrap64 ((wrap64 (x6 * x21)) + x22)) then (if (wrap64 ((wrap64 (x6 * x21)) + x22)) < (x7.length : Int) then (if 0 ≤ (wrap64 ((wrap64 (x6 * x22)) + x21)) then (if (wrap64 ((wrap64 (x6 * x22)) + x21)) < (x7.length : Int) then (if (rd x7 (wrap64 ((wrap64 (x6 * x21)) + x22))) = (rd x7 (wrap64 ((wrap64 (x6 * x22)) + x21))) then (vivariumlaw06_FoldBeside.l3 k x6 x7 x21 (wrap64 (x22 + 1))) else (none)) else (none)) else (none)) else (none)) else (none)) else (vivariumlaw06_FoldBeside.l2 k x6 x7 (wrap64 (x21 + 1)))
end
def vivariumlaw06_FoldBeside.f (k : Nat) (a0_0 : Int) (a0_1 : Int) (a0_2 : Int) (a0_3 : Int) (a0_4 : Int) : Option (Bool) := (vivariumlaw06_awake.f k).bind fun t386 => ((topo_Check.f k a0_0 a0_1 a0_2 a0_3 a0_4).bind fun t387 => (if t387 = 0 then (if a0_1 < 1 then (vivariumlaw06_FoldBeside.j0 k t386 true a0_0 a0_1 a0_2 a0_3 a0_4) else (if a0_2 < 1 then (vivariumlaw06_FoldBeside.j0 k t386 true a0_0 a0_1 a0_2 a0_3 a0_4) else (if a0_1 > 6 then (vivariumlaw06_FoldBeside.j0 k t386 true a0_0 a0_1 a0_2 a0_3 a0_4) else (vivariumlaw06_FoldBeside.j0 k t386 (decide (a0_2 > 6)) a0_0 a0_1 a0_2 a0_3 a0_4)))) else (vivariumlaw06_FoldBeside.j0 k t386 true a0_0 a0_1 a0_2 a0_3 a0_4)))
theorem vivariumlaw06_FoldBeside.mono_l : ∀ k, (∀ y0 y1 y2 y3 y4 y5 y6, LeO (vivariumlaw06_FoldBeside.j0 k y0 y1 y2 y3 y4 y5 y6) (vivariumlaw06_FoldBeside.j0 (k + 1) y0 y1 y2 y3 y4 y5 y6)) ∧ (∀ y0 y1 y2 y3 y4 y5 y6 y7 y8 y9, LeO (vivariumlaw06_FoldBeside.j1 k y0 y1 y2 y3 y4 y5 y6 y7 y8 y9) (vivariumlaw06_FoldBeside.j1 (k + 1) y0 y1 y2 y3 y4 y5 y6 y7 y8 y9)) ∧ (∀ y0 y1 y2 y3 y4 y5 y6 y7 y8 y9 y10 y11, LeO (vivariumlaw06_FoldBeside.l0 k y0 y1 y2 y3 y4 y5 y6 y7 y8 y9 y10 y11) (vivariumlaw06_FoldBeside.l0 (k + 1) y0 y1 y2 y3 y4 y5 y6 y7 y8 y9 y10 y11)) ∧ (∀ y0 y1 y2 y3 y4 y5 y6 y7 y8 y9 y10 y11 y12 y13 y14, LeO (vivariumlaw06_FoldBeside.j3 k y0 y1 y2 y3 y4 y5 y6 y7 y8 y9 y10 y11 y12 y13 y14) (vivariumlaw06_FoldBeside.j3 (k + 1) y0 y1 y2 y3 y4 y5 y6 y7 y8 y9 y10 y11 y12 y13 y14)) ∧ (∀ y0 y1 y2 y3 y4 y5 y6 y7 y8 y9 y10 y11 y12 y13 y14, LeO (vivariumlaw06_FoldBeside.l1 k y0 y1 y2 y3 y4 y5 y6 y7 y8 y9 y10 y11 y12 y13 y14) (vivariumlaw06_FoldBeside.l1 (k + 1) y0 y1 y2 y3 y4 y5 y6 y7 y8 y9 y10 y11 y12 y13 y14)) ∧ (∀ y0 y1 y2 y3 y4 y5 y6 y7 y8 y9 y10 y11 y12 y13 y14 y15 y16 y17 y18 y19 y20, LeO (vivariumlaw06_FoldBeside.j5 k y0 y1 y2 y3 y4 y5 y6 y7 y8 y9 y10 y11 y12 y13 y14 y15 y16 y17 y18 y19 y20) (vivariumlaw06_FoldBeside.j5 (k + 1) y0 y1 y2 y3 y4 y5 y6 y7 y8 y9 y10 y11 y12 y13 y14 y15 y16 y17 y18 y19 y20)) ∧ (∀ y0 y1 y2 y3 y4 y5 y6 y7 y8 y9 y10 y11 y12 y13 y14 y15 y16 y17 y18, LeO (vivariumlaw06_FoldBeside.j6 k y0 y1 y2 y3 y4 y5 y6 y7 y8 y9 y10 y11 y12 y13 y14 y15 y16 y17 y18) (vivariumlaw06_FoldBeside.j6 (k + 1) y0 y1 y2 y3 y4 y5 y6 y7 y8 y9 y10 y11 y12 y13 y14 y15 y16 y17 y18)) ∧ (∀ y0 y1 y2 y3 y4 y5 y6 y7 y8 y9 y10 y11 y12 y13 y14 y15 y16 y17, LeO (vivariumlaw06_FoldBeside.j7 k y0 y1 y2 y3 y4 y5 y6 y7 y8 y9 y10 y11 y12 y13 y14 y15 y16 y17) (vivariumlaw06_FoldBeside.j7 (k + 1) y0 y1 y2 y3 y4 y5 y6 y7 y8 y9 y10 y11 y12 y13 y14 y15 y16 y17)) ∧ (∀ y0 y1 y2, LeO (vivariumlaw06_FoldBeside.l2 k y0 y1 y2) (vivariumlaw06_FoldBeside.l2 (k + 1) y0 y1 y2)) ∧ (∀ y0 y1 y2 y3, LeO (vivariumlaw06_FoldBeside.l3 k y0 y1 y2 y3) (vivariumlaw06_FoldBeside.l3 (k + 1) y0 y1 y2 y3))
  | 0 => ⟨fun _ _ _ _ _ _ _ r h => by simp [vivariumlaw06_FoldBeside.j0] at h, fun _ _ _ _ _ _ _ _ _ _ r h => by simp [vivariumlaw06_FoldBeside.j1] at h, fun _ _ _ _ _ _ _ _ _ _ _ _ r h => by simp [vivariumlaw06_FoldBeside.l0] at h, fun _ _ _ _ _ _ _ _ _ _ _ _ _ _ _ r h => by simp [vivariumlaw06_FoldBeside.j3] at h, fun _ _ _ _ _ _ _ _ _ _ _ _ _ _ _ r h => by simp [vivariumlaw06_FoldBeside.l1] at h, fun _ _ _ _ _ _ _ _ _ _ _ _ _ _ _ _ _ _ _ _ _ r h => by simp [vivariumlaw06_FoldBeside.j5] at h, fun _ _ _ _ _ _ _ _ _ _ _ _ _ _ _ _ _ _ _ r h => by simp [vivariumlaw06_FoldBeside.j6] at h, fun _ _ _ _ _ _ _ _ _ _ _ _ _ _ _ _ _ _ r h => by simp [vivariumlaw06_FoldBeside.j7] at h, fun _ _ _ r h => by simp [vivariumlaw06_FoldBeside.l2] at h, fun _ _ _ _ r h => by simp [vivariumlaw06_FoldBeside.l3] at h⟩
  | k + 1 => by
    obtain ⟨ih0, ih1, ih2, ih3, ih4, ih5, ih6, ih7, ih8, ih9⟩ := vivariumlaw06_FoldBeside.mono_l k
    refine ⟨?_, ?_, ?_, ?_, ?_, ?_, ?_, ?_, ?_, ?_⟩
    · intro y0 y1 y2 y3 y4 y5 y6
      unfold vivariumlaw06_FoldBeside.j0
      repeat' first
      | (with_reducible exact ih1 _ _ _ _ _ _ _ _ _ _)
      | (with_reducible exact topo_Home.mono _ _ _ _ _ _)
      | (with_reducible exact LeO.refl _)
      | (with_reducible refine LeO.ite ?_ ?_)
      | (with_reducible refine LeO.bind ?_ (fun _ => ?_))
    · intro y0 y1 y2 y3 y4 y5 y6 y7 y8 y9
      unfold vivariumlaw06_FoldBeside.j1
      repeat' first
      | (with_reducible exact ih2 _ _ _ _ _ _ _ _ _ _ _ _)
      | (with_reducible exact LeO.refl _)
      | (with_reducible refine LeO.ite ?_ ?_)
    · intro y0 y1 y2 y3 y4 y5 y6 y7 y8 y9 y10 y11
      unfold vivariumlaw06_FoldBeside.l0
      repeat' first
      | (with_reducible exact ih3 _ _ _ _ _ _ _ _ _ _ _ _ _ _ _)
      | (with_reducible exact ih8 _ _ _)
      | (with_reducible exact fold_Ring.mono _ _ _ _ _ _ _ _)
      | (with_reducible exact LeO.refl _)
      | (with_reducible refine LeO.ite ?_ ?_)
      | (with_reducible refine LeO.bind ?_ (fun _ => ?_))
    · intro y0 y1 y2 y3 y4 y5 y6 y7 y8 y9 y10 y11 y12 y13 y14
      unfold vivariumlaw06_FoldBeside.j3
      repeat' first
      | (with_reducible exact ih4 _ _ _ _ _ _ _ _ _ _ _ _ _ _ _)
      | (with_reducible exact LeO.refl _)
      | (with_reducible refine LeO.ite ?_ ?_)
    · intro y0 y1 y2 y3 y4 y5 y6 y7 y8 y9 y10 y11 y12 y13 y14
      unfold vivariumlaw06_FoldBeside.l1
      repeat' first
      | (with_reducible exact ih2 _ _ _ _ _ _ _ _ _ _ _ _)
      | (with_reducible exact ih5 _ _ _ _ _ _ _ _ _ _ _ _ _ _ _ _ _ _ _ _ _)
      | (with_reducible exact fold_Ring.mono _ _ _ _ _ _ _ _)
      | (with_reducible exact LeO.refl _)
      | (with_reducible refine LeO.ite ?_ ?_)
      | (with_reducible refine LeO.bind ?_ (fun _ => ?_))
    · intro y0 y1 y2 y3 y4 y5 y6 y7 y8 y9 y10 y11 y12 y13 y14 y15 y16 y17 y18 y19 y20
      unfold vivariumlaw06_FoldBeside.j5
      repeat' first
      | (with_reducible exact ih6 _ _ _ _ _ _ _ _ _ _ _ _ _ _ _ _ _ _ _)
      | (with_reducible exact fold_Cell.mono _ _ _ _ _ _ _ _)
      | (with_reducible exact vivariumlaw06_glued.mono _ _ _ _ _ _)
      | (with_reducible exact LeO.refl _)
      | (with_reducible refine LeO.ite ?_ ?_)
      | (with_reducible refine LeO.bind ?_ (fun _ => ?_))
    · intro y0 y1 y2 y3 y4 y5 y6 y7 y8 y9 y10 y11 y12 y13 y14 y15 y16 y17 y18
      unfold vivariumlaw06_FoldBeside.j6
      repeat' first
      | (with_reducible exact ih7 _ _ _ _ _ _ _ _ _ _ _ _ _ _ _ _ _ _)
      | (with_reducible exact LeO.refl _)
      | (with_reducible refine LeO.ite ?_ ?_)
    · intro y0 y1 y2 y3 y4 y5 y6 y7 y8 y9 y10 y11 y12 y13 y14 y15 y16 y17
      unfold vivariumlaw06_FoldBeside.j7
      repeat' first
      | (with_reducible exact ih4 _ _ _ _ _ _ _ _ _ _ _ _ _ _ _)
      | (with_reducible exact LeO.refl _)
      | (with_reducible refine LeO.ite ?_ ?_)
    · intro y0 y1 y2
      unfold vivariumlaw06_FoldBeside.l2
      repeat' first
      | (with_reducible exact ih9 _ _ _ _)
      | (with_reducible exact LeO.refl _)
      | (with_reducible refine LeO.ite ?_ ?_)
    · intro y0 y1 y2 y3
      unfold vivariumlaw06_FoldBeside.l3
      repeat' first
      | (with_reducible exact ih8 _ _ _)
      | (with_reducible exact ih9 _ _ _ _)
      | (with_reducible exact LeO.refl _)
      | (with_reducible refine LeO.ite ?_ ?_)
theorem vivariumlaw06_FoldBeside.mono : ∀ a0 a1 a2 a3 a4 k, LeO (vivariumlaw06_FoldBeside.f k a0 a1 a2 a3 a4) (vivariumlaw06_FoldBeside.f (k + 1) a0 a1 a2 a3 a4) := by
  intro a0 a1 a2 a3 a4 k
  obtain ⟨ih0, ih1, ih2, ih3, ih4, ih5, ih6, ih7, ih8, ih9⟩ := vivariumlaw06_FoldBeside.mono_l k
  unfold vivariumlaw06_FoldBeside.f
  repeat' first
      | (with_reducible exact ih0 _ _ _ _ _ _ _)
      | (with_reducible exact topo_Check.mono _ _ _ _ _ _)
      | (with_reducible exact vivariumlaw06_awake.mono _)
      | (with_reducible refine LeO.ite ?_ ?_)
      | (with_reducible refine LeO.bind ?_ (fun _ => ?_))
def vivariumlaw06_FoldBeside.T13 : Bool × List (List Nat × List Nat) := (true, [([], []), ([0], [0]), ([], []), ([], []), ([3], [3]), ([2, 4], [2, 4]), ([1, 5], [1, 5]), ([], []), ([7], [7]), ([], []), ([], []), ([10], [10]), ([9, 11], [9, 11]), ([8, 12], [8, 12]), ([6, 13], [6, 13]), ([], []), ([15, 14, 0, 1, 2, 3, 4, 5, 6, 7, 8, 9, 10, 11, 12, 13, 14, 15], [14, 15])])
def vivariumlaw06_FoldBeside.B13 : List Nat := [0, 1, 0, 0, 8, 28, 63, 0, 128, 0, 0, 1024, 3584, 8064, 16383, 0, 65535]
theorem vivariumlaw06_FoldBeside.tab13 : rtab .any (opsOf Try.f3 13) = vivariumlaw06_FoldBeside.T13 := by kernel_rfl
theorem vivariumlaw06_FoldBeside.bits13 : waitsOk vivariumlaw06_FoldBeside.T13.2 vivariumlaw06_FoldBeside.B13 = true := by kernel_rfl
def vivariumlaw06_FoldBeside.T38 : Bool × List (List Nat × List Nat) := (true, [([], []), ([], []), ([], []), ([1, 2], [1, 2]), ([], []), ([3, 4], [3, 4]), ([0, 5], [0, 5]), ([6], [6]), ([], []), ([], []), ([], []), ([9, 10], [9, 10]), ([], []), ([11, 12], [11, 12]), ([8, 13], [8, 13]), ([14], [14]), ([7, 15], [7, 15])])
def vivariumlaw06_FoldBeside.B38 : List Nat := [0, 0, 0, 6, 0, 30, 63, 127, 0, 0, 0, 1536, 0, 7680, 16128, 32512, 65535]
theorem vivariumlaw06_FoldBeside.tab38 : rtab .any (opsOf Try.f3 38) = vivariumlaw06_FoldBeside.T38 := by kernel_rfl
theorem vivariumlaw06_FoldBeside.bits38 : waitsOk vivariumlaw06_FoldBeside.T38.2 vivariumlaw06_FoldBeside.B38 = true := by kernel_rfl
set_option maxHeartbeats 8000000 in
set_option maxRecDepth 100000 in
theorem vivariumlaw06_FoldBeside.calls (k : Nat) (a0_0 : Int) (a0_1 : Int) (a0_2 : Int) (a0_3 : Int) (a0_4 : Int) (r : Bool) (w : World) (h : vivariumlaw06_FoldBeside.f k a0_0 a0_1 a0_2 a0_3 a0_4 = some r) :
    Calls Try.prog 3 #[.agg #[.int .u8 a0_0, .int .i64 a0_1, .int .i64 a0_2, .int .u8 a0_3, .int .i64 a0_4]] w fun e w' => e = .returned (.bool r) ∧ Below w.heap.size w w' := by
  have hu23 := Try.underlying23
  have hu28 := Try.underlying28
  have hu33 := Try.underlying33
  have HB := Aside0.mk (Below.refl w.heap.size w)
  have H : ((vivariumlaw06_awake.f k).bind fun t386 => ((topo_Check.f k a0_0 a0_1 a0_2 a0_3 a0_4).bind fun t387 => (if t387 = 0 then (if a0_1 < 1 then (vivariumlaw06_FoldBeside.j0 k t386 true a0_0 a0_1 a0_2 a0_3 a0_4) else (if a0_2 < 1 then (vivariumlaw06_FoldBeside.j0 k t386 true a0_0 a0_1 a0_2 a0_3 a0_4) else (if a0_1 > 6 then (vivariumlaw06_FoldBeside.j0 k t386 true a0_0 a0_1 a0_2 a0_3 a0_4) else (vivariumlaw06_FoldBeside.j0 k t386 (decide (a0_2 > 6)) a0_0 a0_1 a0_2 a0_3 a0_4)))) else (vivariumlaw06_FoldBeside.j0 k t386 true a0_0 a0_1 a0_2 a0_3 a0_4)))) = some r := h
  clear h
  replace H := Option.bind_eq_some_iff.mp H
  obtain ⟨t386, A20, H⟩ := H
  replace H : ((topo_Check.f k a0_0 a0_1 a0_2 a0_3 a0_4).bind fun t387 => (if t387 = 0 then (if a0_1 < 1 then (vivariumlaw06_FoldBeside.j0 k t386 true a0_0 a0_1 a0_2 a0_3 a0_4) else (if a0_2 < 1 then (vivariumlaw06_FoldBeside.j0 k t386 true a0_0 a0_1 a0_2 a0_3 a0_4) else (if a0_1 > 6 then (vivariumlaw06_FoldBeside.j0 k t386 true a0_0 a0_1 a0_2 a0_3 a0_4) else (vivariumlaw06_FoldBeside.j0 k t386 (decide (a0_2 > 6)) a0_0 a0_1 a0_2 a0_3 a0_4)))) else (vivariumlaw06_FoldBeside.j0 k t386 true a0_0 a0_1 a0_2 a0_3 a0_4))) = some r := H
  have A2 := Aside0.mk A20
  clear A20
  replace H := Option.bind_eq_some_iff.mp H
  obtain ⟨t387, A30, H⟩ := H
  replace H : (if t387 = 0 then (if a0_1 < 1 then (vivariumlaw06_FoldBeside.j0 k t386 true a0_0 a0_1 a0_2 a0_3 a0_4) else (if a0_2 < 1 then (vivariumlaw06_FoldBeside.j0 k t386 true a0_0 a0_1 a0_2 a0_3 a0_4) else (if a0_1 > 6 then (vivariumlaw06_FoldBeside.j0 k t386 true a0_0 a0_1 a0_2 a0_3 a0_4) else (vivariumlaw06_FoldBeside.j0 k t386 (decide (a0_2 > 6)) a0_0 a0_1 a0_2 a0_3 a0_4)))) else (vivariumlaw06_FoldBeside.j0 k t386 true a0_0 a0_1 a0_2 a0_3 a0_4)) = some r := H
  have A3 := Aside0.mk A30
  clear A30
  have HC4 := Aside0.mk H
  clear H
  go_enter Try.func3, Try.ntmps3
  go_upto_region 3 with (first | ((with_reducible refine gate_dst (N := 1) rfl ?_); refine box_event ?hg (N := 1) ?hd (cs := #[.int .u8 a0_0, .int .i64 a0_1, .int .i64 a0_2, .int .u8 a0_3, .int .i64 a0_4]) (t := 23) ?hr ?_; (case hd => rfl); (case hg => rfl); (case hr => (go_simp; done)); intro gb385 hg w5 hbox hb; have BK385 := Aside0.mk hbox; have GW385 := Aside0.mk ((by rw [hg]; exact (below_size HB.out) : w.heap.size ≤ gb385)); have GE385 := Aside0.mk ((by rw [hg]; exact (below_size HB.out) : w.heap.size ≤ gb385)); replace HB := Aside0.mk (below_step HB.out hb); clear hb hbox hg) | ((with_reducible refine gate_callee (f := 5) rfl ?_); refine goesL_ (some 23) rfl rfl Try.func5 (by kernel_rfl) rfl #[] rfl (by (try simp only [List.map_toArray, List.map_cons, List.map_nil]); (done)) ?_; (with_reducible refine (vivariumlaw06_awake.calls k  t386 _ A2.out).mono ?_); rintro e w6 ⟨rfl, hb⟩; refine ⟨_, rfl, ?_⟩; replace BK385 := Aside0.mk (blk_below BK385.out hb); replace HB := Aside0.mk (below_step HB.out hb); (try clear hb); have hcz7_0 : w6.cell? ⟨gb385, 0, none⟩ = some (.int .u8 a0_0) := (blk_cell BK385.out 0).trans rfl; have hcz7_1 : w6.cell? ⟨gb385, 1, none⟩ = some (.int .i64 a0_1) := (blk_cell BK385.out 1).trans rfl; have hcz7_2 : w6.cell? ⟨gb385, 2, none⟩ = some (.int .i64 a0_2) := (blk_cell BK385.out 2).trans rfl; have hcz7_3 : w6.cell? ⟨gb385, 3, none⟩ = some (.int .u8 a0_3) := (blk_cell BK385.out 3).trans rfl; have hcz7_4 : w6.cell? ⟨gb385, 4, none⟩ = some (.int .i64 a0_4) := (blk_cell BK385.out 4).trans rfl; have hfz7_0 := blk_frozen BK385.out 0; have hfz7_1 := blk_frozen BK385.out 1; have hfz7_2 := blk_frozen BK385.out 2; have hfz7_3 := blk_frozen BK385.out 3; have hfz7_4 := blk_frozen BK385.out 4) | ((with_reducible refine gate_callee (f := 6) rfl ?_); refine goesL_ (some 25) rfl rfl Try.func6 (by kernel_rfl) rfl #[.agg #[.int .u8 a0_0, .int .i64 a0_1, .int .i64 a0_2, .int .u8 a0_3, .int .i64 a0_4]] rfl (by (try simp only [List.map_toArray, List.map_cons, List.map_nil]); (rfl)) ?_; (with_reducible refine (topo_Check.calls k a0_0 a0_1 a0_2 a0_3 a0_4 t387 _ A3.out).mono ?_); rintro e w8 ⟨rfl, hb⟩; refine ⟨_, rfl, ?_⟩; replace BK385 := Aside0.mk (blk_below BK385.out hb); replace HB := Aside0.mk (below_step HB.out hb); (try clear hb)))
  go_cut [47] (fun v47 wc => ∃ (kq : Nat) (x47_3 : Bool), v47 = .bool x47_3 ∧ Aside0 (vivariumlaw06_FoldBeside.j0 kq t386 x47_3 a0_0 a0_1 a0_2 a0_3 a0_4 = some r) ∧ Aside0 (kq ≤ k) ∧ Aside0 (wc.heap[gb385]? = some (.cells #[.int .u8 a0_0, .int .i64 a0_1, .int .i64 a0_2, .int .u8 a0_3, .int .i64 a0_4] 23 (0, 0))) ∧ Aside0 (Below w.heap.size w wc))
  case first =>
    have H := HC4.out
    clear HC4
    by_cases c9 : t387 = 0
    · rw [if_pos c9] at H
      have c9b0 : (t387 == 0) = true := beq_iff_eq.mpr c9
      have c9b1 : (t387 != 0) = false := bne_eq_false_iff_eq.mpr c9
      clear c9
      (skip)
      by_cases c10 : a0_1 < 1
      · rw [if_pos c10] at H
        have c10b0 : decide (a0_1 < 1) = true := decide_eq_true c10
        clear c10
        as_aux_lemma =>
          have H' := Aside0.mk H
          clear H
          have hcz11_0 : w8.cell? ⟨gb385, 0, none⟩ = some (.int .u8 a0_0) := (blk_cell BK385.out 0).trans rfl
          have hcz11_1 : w8.cell? ⟨gb385, 1, none⟩ = some (.int .i64 a0_1) := (blk_cell BK385.out 1).trans rfl
          have hcz11_2 : w8.cell? ⟨gb385, 2, none⟩ = some (.int .i64 a0_2) := (blk_cell BK385.out 2).trans rfl
          have hcz11_3 : w8.cell? ⟨gb385, 3, none⟩ = some (.int .u8 a0_3) := (blk_cell BK385.out 3).trans rfl
          have hcz11_4 : w8.cell? ⟨gb385, 4, none⟩ = some (.int .i64 a0_4) := (blk_cell BK385.out 4).trans rfl
          have hfz11_0 := blk_frozen BK385.out 0
          have hfz11_1 := blk_frozen BK385.out 1
          have hfz11_2 := blk_frozen BK385.out 2
          have hfz11_3 := blk_frozen BK385.out 3
          have hfz11_4 := blk_frozen BK385.out 4
          go_wp2
          go_meet
          case rel => exact ⟨_, (true), (by (rfl)), H', ⟨by (omega)⟩, ⟨by (with_reducible skip); exact BK385.out⟩, ⟨by repeat (with_reducible (exact HB.out))⟩⟩
      · rw [if_neg c10] at H
        have c10b0 : decide (a0_1 < 1) = false := decide_eq_false c10
        clear c10
        by_cases c12 : a0_2 < 1
        · rw [if_pos c12] at H
          have c12b0 : decide (a0_2 < 1) = true := decide_eq_true c12
          clear c12
          as_aux_lemma =>
            have H' := Aside0.mk H
            clear H
            have hcz13_0 : w8.cell? ⟨gb385, 0, none⟩ = some (.int .u8 a0_0) := (blk_cell BK385.out 0).trans rfl
            have hcz13_1 : w8.cell? ⟨gb385, 1, none⟩ = some (.int .i64 a0_1) := (blk_cell BK385.out 1).trans rfl
            have hcz13_2 : w8.cell? ⟨gb385, 2, none⟩ = some (.int .i64 a0_2) := (blk_cell BK385.out 2).trans rfl
            have hcz13_3 : w8.cell? ⟨gb385, 3, none⟩ = some (.int .u8 a0_3) := (blk_cell BK385.out 3).trans rfl
            have hcz13_4 : w8.cell? ⟨gb385, 4, none⟩ = some (.int .i64 a0_4) := (blk_cell BK385.out 4).trans rfl
            have hfz13_0 := blk_frozen BK385.out 0
            have hfz13_1 := blk_frozen BK385.out 1
            have hfz13_2 := blk_frozen BK385.out 2
            have hfz13_3 := blk_frozen BK385.out 3
            have hfz13_4 := blk_frozen BK385.out 4
            go_wp2
            go_meet
            case rel => exact ⟨_, (true), (by (rfl)), H', ⟨by (omega)⟩, ⟨by (with_reducible skip); exact BK385.out⟩, ⟨by repeat (with_reducible (exact HB.out))⟩⟩
        · rw [if_neg c12] at H
          have c12b0 : decide (a0_2 < 1) = false := decide_eq_false c12
          clear c12
          by_cases c14 : a0_1 > 6
          · rw [if_pos c14] at H
            have c14b0 : decide (6 < a0_1) = true := decide_eq_true c14
            clear c14
            as_aux_lemma =>
              have H' := Aside0.mk H
              clear H
              have hcz15_0 : w8.cell? ⟨gb385, 0, none⟩ = some (.int .u8 a0_0) := (blk_cell BK385.out 0).trans rfl
              have hcz15_1 : w8.cell? ⟨gb385, 1, none⟩ = some (.int .i64 a0_1) := (blk_cell BK385.out 1).trans rfl
              have hcz15_2 : w8.cell? ⟨gb385, 2, none⟩ = some (.int .i64 a0_2) := (blk_cell BK385.out 2).trans rfl
              have hcz15_3 : w8.cell? ⟨gb385, 3, none⟩ = some (.int .u8 a0_3) := (blk_cell BK385.out 3).trans rfl
              have hcz15_4 : w8.cell? ⟨gb385, 4, none⟩ = some (.int .i64 a0_4) := (blk_cell BK385.out 4).trans rfl
              have hfz15_0 := blk_frozen BK385.out 0
              have hfz15_1 := blk_frozen BK385.out 1
              have hfz15_2 := blk_frozen BK385.out 2
              have hfz15_3 := blk_frozen BK385.out 3
              have hfz15_4 := blk_frozen BK385.out 4
              go_wp2
              go_meet
              case rel => exact ⟨_, (true), (by (rfl)), H', ⟨by (omega)⟩, ⟨by (with_reducible skip); exact BK385.out⟩, ⟨by repeat (with_reducible (exact HB.out))⟩⟩
          · rw [if_neg c14] at H
            have c14b0 : decide (6 < a0_1) = false := decide_eq_false c14
            clear c14
            as_aux_lemma =>
              have H' := Aside0.mk H
              clear H
              have hcz16_0 : w8.cell? ⟨gb385, 0, none⟩ = some (.int .u8 a0_0) := (blk_cell BK385.out 0).trans rfl
              have hcz16_1 : w8.cell? ⟨gb385, 1, none⟩ = some (.int .i64 a0_1) := (blk_cell BK385.out 1).trans rfl
              have hcz16_2 : w8.cell? ⟨gb385, 2, none⟩ = some (.int .i64 a0_2) := (blk_cell BK385.out 2).trans rfl
              have hcz16_3 : w8.cell? ⟨gb385, 3, none⟩ = some (.int .u8 a0_3) := (blk_cell BK385.out 3).trans rfl
              have hcz16_4 : w8.cell? ⟨gb385, 4, none⟩ = some (.int .i64 a0_4) := (blk_cell BK385.out 4).trans rfl
              have hfz16_0 := blk_frozen BK385.out 0
              have hfz16_1 := blk_frozen BK385.out 1
              have hfz16_2 := blk_frozen BK385.out 2
              have hfz16_3 := blk_frozen BK385.out 3
              have hfz16_4 := blk_frozen BK385.out 4
              go_wp2
              go_meet
              case rel => exact ⟨_, (decide (a0_2 > 6)), (by (rfl)), H', ⟨by (omega)⟩, ⟨by (with_reducible skip); exact BK385.out⟩, ⟨by repeat (with_reducible (exact HB.out))⟩⟩
    · rw [if_neg c9] at H
      have c9b0 : (t387 == 0) = false := beq_eq_false_iff_ne.mpr c9
      have c9b1 : (t387 != 0) = true := bne_iff_ne.mpr c9
      (skip)
      as_aux_lemma =>
        have H' := Aside0.mk H
        clear H
        go_wp2
        go_meet
        case rel => exact ⟨_, (true), (by (rfl)), H', ⟨by (omega)⟩, ⟨by (with_reducible skip); exact BK385.out⟩, ⟨by repeat (with_reducible (exact HB.out))⟩⟩
  case rest =>
    clear HC4
    try clear hcz7_0
    try clear hcz7_1
    try clear hcz7_2
    try clear hcz7_3
    try clear hcz7_4
    try clear hfz7_0
    try clear hfz7_1
    try clear hfz7_2
    try clear hfz7_3
    try clear hfz7_4
    obtain ⟨kq, x47_3, rfl, HA, HJ3, BK385, HB⟩ := hcut
    cases kq with
    | zero => exact absurd HA.out (by simp [vivariumlaw06_FoldBeside.j0])
    | succ kj3 =>
      have H := HA.out
      clear HA
      simp only [vivariumlaw06_FoldBeside.j0] at H
      by_cases c17 : x47_3 = true
      · subst c17
        have H1 : (some t386) = some r := by rw [if_pos rfl] at H; exact H
        clear H
        have H := H1
        clear H1
        as_aux_lemma =>
          obtain rfl := Option.some.inj H
          go_wp2
          go_ret
          exact ⟨by (rfl), by repeat (with_reducible (exact HB.out))⟩
      · replace c17 := Bool.eq_false_iff.mpr c17
        subst c17
        have H1 : ((topo_Home.f kj3 a0_0 a0_1 a0_2 a0_3 a0_4).bind fun bt388 => (if t386 = true then (if bt388.2.2.2.2 = 0 then (if bt388.2.2.1 = a0_1 then (vivariumlaw06_FoldBeside.j1 kj3 (bt388.2.2.2.1 != a0_2) a0_0 a0_1 a0_2 a0_3 a0_4 bt388.1 bt388.2.1 bt388.2.2.1 bt388.2.2.2.1) else (none)) else (none)) else (none))) = some r := by rw [if_neg (show ¬ (false = true) by decide)] at H; exact H
        clear H
        have H := H1
        clear H1
        replace H := Option.bind_eq_some_iff.mp H
        obtain ⟨⟨t388, t389, t390, t391, t392⟩, A180, H⟩ := H
        replace H : (if t386 = true then (if t392 = 0 then (if t390 = a0_1 then (vivariumlaw06_FoldBeside.j1 kj3 (t391 != a0_2) a0_0 a0_1 a0_2 a0_3 a0_4 t388 t389 t390 t391) else (none)) else (none)) else (none)) = some r := H
        have A18 := Aside0.mk A180
        clear A180
        have HC19 := Aside0.mk H
        clear H
        have hcz20_0 : wc.cell? ⟨gb385, 0, none⟩ = some (.int .u8 a0_0) := (blk_cell BK385.out 0).trans rfl
        have hcz20_1 : wc.cell? ⟨gb385, 1, none⟩ = some (.int .i64 a0_1) := (blk_cell BK385.out 1).trans rfl
        have hcz20_2 : wc.cell? ⟨gb385, 2, none⟩ = some (.int .i64 a0_2) := (blk_cell BK385.out 2).trans rfl
        have hcz20_3 : wc.cell? ⟨gb385, 3, none⟩ = some (.int .u8 a0_3) := (blk_cell BK385.out 3).trans rfl
        have hcz20_4 : wc.cell? ⟨gb385, 4, none⟩ = some (.int .i64 a0_4) := (blk_cell BK385.out 4).trans rfl
        have hfz20_0 := blk_frozen BK385.out 0
        have hfz20_1 := blk_frozen BK385.out 1
        have hfz20_2 := blk_frozen BK385.out 2
        have hfz20_3 := blk_frozen BK385.out 3
        have hfz20_4 := blk_frozen BK385.out 4
        go_upto_region 6 with (first | ((with_reducible refine gate_callee (f := 7) rfl ?_); refine goesL_ (some 51) rfl rfl Try.func7 (by kernel_rfl) rfl #[.agg #[.int .u8 a0_0, .int .i64 a0_1, .int .i64 a0_2, .int .u8 a0_3, .int .i64 a0_4]] rfl (by (try simp only [List.map_toArray, List.map_cons, List.map_nil]); (rfl)) ?_; (with_reducible refine (topo_Home.calls kj3 a0_0 a0_1 a0_2 a0_3 a0_4 t388 t389 t390 t391 t392 _ A18.out).mono ?_); rintro e w21 ⟨rfl, hb⟩; refine ⟨_, rfl, ?_⟩; replace BK385 := Aside0.mk (blk_below BK385.out hb); replace HB := Aside0.mk (below_step HB.out hb); (try clear hb)) | ((with_reducible refine gate_dst (N := 5) rfl ?_); refine box_event ?hg (N := 5) ?hd (cs := #[.int .i64 0, .int .i64 0, .int .i64 0, .int .i64 0]) (t := 28) ?hr ?_; (case hd => rfl); (case hg => rfl); (case hr => (go_simp; done)); intro gb393 hg w22 hbox hb; have BK393 := Aside0.mk hbox; have GW393 := Aside0.mk ((by rw [hg]; exact (below_size HB.out) : w.heap.size ≤ gb393)); have GE393 := Aside0.mk ((by rw [hg]; exact (below_size HB.out) : w.heap.size ≤ gb393)); have NB385_393 := Aside0.mk ((by rw [hg]; exact Nat.ne_of_lt (blk_lt BK385.out) : gb385 ≠ gb393)); have NB393_385 := Aside0.mk ((by rw [hg]; exact Nat.ne_of_gt (blk_lt BK385.out) : gb393 ≠ gb385)); replace BK385 := Aside0.mk (blk_below BK385.out hb); replace HB := Aside0.mk (below_step HB.out hb); clear hb hbox hg; have hnb23 := NB393_385.out; have hnc23 := NB385_393.out; have hcz24_0 : w22.cell? ⟨gb393, 0, none⟩ = some (.int .i64 0) := (blk_cell BK393.out 0).trans rfl; have hcz24_1 : w22.cell? ⟨gb393, 1, none⟩ = some (.int .i64 0) := (blk_cell BK393.out 1).trans rfl; have hcz24_2 : w22.cell? ⟨gb393, 2, none⟩ = some (.int .i64 0) := (blk_cell BK393.out 2).trans rfl; have hcz24_3 : w22.cell? ⟨gb393, 3, none⟩ = some (.int .i64 0) := (blk_cell BK393.out 3).trans rfl; have hfz24_0 := blk_frozen BK393.out 0; have hfz24_1 := blk_frozen BK393.out 1; have hfz24_2 := blk_frozen BK393.out 2; have hfz24_3 := blk_frozen BK393.out 3))
        go_cut [73] (fun v73 wc => ∃ (kq : Nat) (x73_18 : Bool), v73 = .bool x73_18 ∧ Aside0 (vivariumlaw06_FoldBeside.j1 kq x73_18 a0_0 a0_1 a0_2 a0_3 a0_4 t388 t389 t390 t391 = some r) ∧ Aside0 (kq ≤ kj3) ∧ Aside0 (wc.heap[gb385]? = some (.cells #[.int .u8 a0_0, .int .i64 a0_1, .int .i64 a0_2, .int .u8 a0_3, .int .i64 a0_4] 23 (0, 0))) ∧ Aside0 (wc.heap[gb393]? = some (.cells #[.int .i64 t388, .int .i64 t389, .int .i64 t390, .int .i64 t391] 28 (0, 0))) ∧ Aside0 (Below w.heap.size w wc))
        case first =>
          have H := HC19.out
          clear HC19
          by_cases c25 : t386 = true
          · subst c25
            have H1 : (if t392 = 0 then (if t390 = a0_1 then (vivariumlaw06_FoldBeside.j1 kj3 (t391 != a0_2) a0_0 a0_1 a0_2 a0_3 a0_4 t388 t389 t390 t391) else (none)) else (none)) = some r := by rw [if_pos rfl] at H; exact H
            clear H
            have H := H1
            clear H1
            by_cases c26 : t392 = 0
            · rw [if_pos c26] at H
              have c26b0 : (t392 == 0) = true := beq_iff_eq.mpr c26
              have c26b1 : (t392 != 0) = false := bne_eq_false_iff_eq.mpr c26
              clear c26
              (skip)
              by_cases c27 : t390 = a0_1
              · rw [if_pos c27] at H
                have c27b0 : (t390 == a0_1) = true := beq_iff_eq.mpr c27
                have c27b1 : (t390 != a0_1) = false := bne_eq_false_iff_eq.mpr c27
                clear c27
                as_aux_lemma =>
                  have H' := Aside0.mk H
                  clear H
                  have hnb28 := NB393_385.out
                  have hnc28 := NB385_393.out
                  have hcz29_0 : w22.cell? ⟨gb393, 0, none⟩ = some (.int .i64 0) := (blk_cell BK393.out 0).trans rfl
                  have hcz29_1 : w22.cell? ⟨gb393, 1, none⟩ = some (.int .i64 0) := (blk_cell BK393.out 1).trans rfl
                  have hcz29_2 : w22.cell? ⟨gb393, 2, none⟩ = some (.int .i64 0) := (blk_cell BK393.out 2).trans rfl
                  have hcz29_3 : w22.cell? ⟨gb393, 3, none⟩ = some (.int .i64 0) := (blk_cell BK393.out 3).trans rfl
                  have hfz29_0 := blk_frozen BK393.out 0
                  have hfz29_1 := blk_frozen BK393.out 1
                  have hfz29_2 := blk_frozen BK393.out 2
                  have hfz29_3 := blk_frozen BK393.out 3
                  have hcz30_0 : w22.cell? ⟨gb385, 0, none⟩ = some (.int .u8 a0_0) := (blk_cell BK385.out 0).trans rfl
                  have hcz30_1 : w22.cell? ⟨gb385, 1, none⟩ = some (.int .i64 a0_1) := (blk_cell BK385.out 1).trans rfl
                  have hcz30_2 : w22.cell? ⟨gb385, 2, none⟩ = some (.int .i64 a0_2) := (blk_cell BK385.out 2).trans rfl
                  have hcz30_3 : w22.cell? ⟨gb385, 3, none⟩ = some (.int .u8 a0_3) := (blk_cell BK385.out 3).trans rfl
                  have hcz30_4 : w22.cell? ⟨gb385, 4, none⟩ = some (.int .i64 a0_4) := (blk_cell BK385.out 4).trans rfl
                  have hfz30_0 := blk_frozen BK385.out 0
                  have hfz30_1 := blk_frozen BK385.out 1
                  have hfz30_2 := blk_frozen BK385.out 2
                  have hfz30_3 := blk_frozen BK385.out 3
                  have hfz30_4 := blk_frozen BK385.out 4
                  go_wp2
                  go_meet
                  case rel => exact ⟨_, (t391 != a0_2), (by (rfl)), H', ⟨by have := HJ3.out; (omega)⟩, ⟨by (with_reducible skip); refine blk_far ?_ NB385_393.out _; (with_reducible skip); refine blk_far ?_ NB385_393.out _; (with_reducible skip); refine blk_far ?_ NB385_393.out _; (with_reducible skip); refine blk_far ?_ NB385_393.out _; (with_reducible skip); exact BK385.out⟩, ⟨by (with_reducible skip); refine blk_put (cs := #[.int .i64 t388, .int .i64 t389, .int .i64 t390, .int .i64 0]) ?_ 3 _ rfl; (with_reducible skip); refine blk_put (cs := #[.int .i64 t388, .int .i64 t389, .int .i64 0, .int .i64 0]) ?_ 2 _ rfl; (with_reducible skip); refine blk_put (cs := #[.int .i64 t388, .int .i64 0, .int .i64 0, .int .i64 0]) ?_ 1 _ rfl; (with_reducible skip); refine blk_put (cs := #[.int .i64 0, .int .i64 0, .int .i64 0, .int .i64 0]) ?_ 0 _ rfl; (with_reducible skip); exact BK393.out⟩, ⟨by repeat (with_reducible first | exact HB.out | refine below_set ?_ GE393.out)⟩⟩
              · rw [if_neg c27] at H
                exact absurd H (by simp)
            · rw [if_neg c26] at H
              exact absurd H (by simp)
          · replace c25 := Bool.eq_false_iff.mpr c25
            subst c25
            have H1 : (none) = some r := by rw [if_neg (show ¬ (false = true) by decide)] at H; exact H
            clear H
            have H := H1
            clear H1
            exact absurd H (by simp)
        case rest =>
          clear HC19
          try clear hcz20_0
          try clear hcz20_1
          try clear hcz20_2
          try clear hcz20_3
          try clear hcz20_4
          try clear hcz24_0
          try clear hcz24_1
          try clear hcz24_2
          try clear hcz24_3
          try clear hfz20_0
          try clear hfz20_1
          try clear hfz20_2
          try clear hfz20_3
          try clear hfz20_4
          try clear hfz24_0
          try clear hfz24_1
          try clear hfz24_2
          try clear hfz24_3
          obtain ⟨kq, x73_18, rfl, HA, HJ18, BK385, BK393, HB⟩ := hcut
          cases kq with
          | zero => exact absurd HA.out (by simp [vivariumlaw06_FoldBeside.j1])
          | succ kj18 =>
            have H := HA.out
            clear HA
            simp only [vivariumlaw06_FoldBeside.j1] at H
            by_cases c31 : x73_18 = true
            · subst c31
              have H1 : (none) = some r := by rw [if_pos rfl] at H; exact H
              clear H
              have H := H1
              clear H1
              exact absurd H (by simp)
            · replace c31 := Bool.eq_false_iff.mpr c31
              subst c31
              have H1 : (if 0 ≤ (wrap64 ((wrap64 (a0_1 * a0_2)) * (wrap64 (a0_1 * a0_2)))) then (if (wrap64 ((wrap64 (a0_1 * a0_2)) * (wrap64 (a0_1 * a0_2))) : Int).toNat ≤ 35184372088832 then (vivariumlaw06_FoldBeside.l0 kj18 (wrap64 (a0_1 * a0_2)) (List.replicate (wrap64 ((wrap64 (a0_1 * a0_2)) * (wrap64 (a0_1 * a0_2))) : Int).toNat 0) 0 a0_0 a0_1 a0_2 a0_3 a0_4 t388 t389 t390 t391) else (none)) else (none)) = some r := by rw [if_neg (show ¬ (false = true) by decide)] at H; exact H
              clear H
              have H := H1
              clear H1
              obtain ⟨ji32, hji32⟩ : ∃ j_ : Int, (wrap64 ((wrap64 (a0_1 * a0_2)) * (wrap64 (a0_1 * a0_2)))) = j_ := ⟨_, rfl⟩
              replace H : (if 0 ≤ (ji32) then (if (ji32 : Int).toNat ≤ 35184372088832 then (vivariumlaw06_FoldBeside.l0 kj18 (wrap64 (a0_1 * a0_2)) (List.replicate (ji32 : Int).toNat 0) 0 a0_0 a0_1 a0_2 a0_3 a0_4 t388 t389 t390 t391) else (none)) else (none)) = some r := by (rw [hji32] at H; exact H)
              have hji32w : (IntKind.i64.wrap ((wrap64 (a0_1 * a0_2)) * (wrap64 (a0_1 * a0_2)))) = ji32 := (i64_w _).trans hji32
              by_cases c33 : 0 ≤ (ji32)
              · rw [if_pos c33] at H
                have c33b0 := eq_true c33
                have c33b1 : decide (0 ≤ (ji32)) = true := decide_eq_true c33
                clear c33
                by_cases c34 : (ji32 : Int).toNat ≤ 35184372088832
                · rw [if_pos c34] at H
                  have c34b0 := eq_true c34
                  have c34b1 : decide ((ji32 : Int).toNat ≤ 35184372088832) = true := decide_eq_true c34
                  clear c34
                  obtain ⟨y394, hy394⟩ : ∃ y_ : List Int, y_ = (List.replicate (ji32 : Int).toNat 0) := ⟨_, rfl⟩
                  replace H : (vivariumlaw06_FoldBeside.l0 kj18 (wrap64 (a0_1 * a0_2)) y394 0 a0_0 a0_1 a0_2 a0_3 a0_4 t388 t389 t390 t391) = some r := by (rw [hy394]; with_reducible exact H)
                  have Ny394 := Aside0.mk hy394
                  clear hy394
                  have H' := Aside0.mk H
                  clear H
                  have hnb35 := NB385_393.out
                  have hnc35 := NB393_385.out
                  have hcz36_0 : wc.cell? ⟨gb385, 0, none⟩ = some (.int .u8 a0_0) := (blk_cell BK385.out 0).trans rfl
                  have hcz36_1 : wc.cell? ⟨gb385, 1, none⟩ = some (.int .i64 a0_1) := (blk_cell BK385.out 1).trans rfl
                  have hcz36_2 : wc.cell? ⟨gb385, 2, none⟩ = some (.int .i64 a0_2) := (blk_cell BK385.out 2).trans rfl
                  have hcz36_3 : wc.cell? ⟨gb385, 3, none⟩ = some (.int .u8 a0_3) := (blk_cell BK385.out 3).trans rfl
                  have hcz36_4 : wc.cell? ⟨gb385, 4, none⟩ = some (.int .i64 a0_4) := (blk_cell BK385.out 4).trans rfl
                  have hfz36_0 := blk_frozen BK385.out 0
                  have hfz36_1 := blk_frozen BK385.out 1
                  have hfz36_2 := blk_frozen BK385.out 2
                  have hfz36_3 := blk_frozen BK385.out 3
                  have hfz36_4 := blk_frozen BK385.out 4
                  go_wp2_with ((((with_reducible refine gate_dst (N := 82) rfl ?_); refine Kd.R_make (Kd.int .i64) _ 3 rfl (N := 82) rfl 31 _ _ rfl ji32 rfl rfl Try.underlying31 (.int .i64 0) 8 info3 rfl (by decide) (by omega) 0 (ok := fun _ => True) (okp := fun _ => True) rfl (fun _ hk => hk) trivial (of_decide_eq_true (by (with_reducible assumption))) (Nat.le_trans (Nat.mul_le_mul_right _ (of_decide_eq_true (by (with_reducible assumption)) : ji32.toNat ≤ 35184372088832)) (by omega)) (Below.refl _ _) (Nat.le_refl _) ?_; intro v395 w37 ho38 hb hg_ hnew_; clear hg_ hnew_; (rw [← Ny394.out] at ho38); have HO396 := Aside0.mk (Kd.R_lower ho38 (below_size HB.out)); replace BK385 := Aside0.mk (blk_below BK385.out hb); replace BK393 := Aside0.mk (blk_below BK393.out hb); replace HB := Aside0.mk (below_step HB.out hb); clear hb ho38)))
                  go_loopg [8] kj18 (fun kq v8 w' => ∃ (x7_3 : List Int) (x8_3 : Int), v8 = .int .i64 x8_3 ∧ Aside0 (vivariumlaw06_FoldBeside.l0 kq (wrap64 (a0_1 * a0_2)) x7_3 x8_3 a0_0 a0_1 a0_2 a0_3 a0_4 t388 t389 t390 t391 = some r) ∧ Aside0 (kq ≤ kj18) ∧ Aside0 (Kd.R (Kd.int .i64) 3 w' w.heap.size (fun _ => True) v395 x7_3) ∧ Aside0 (w'.heap[gb385]? = some (.cells #[.int .u8 a0_0, .int .i64 a0_1, .int .i64 a0_2, .int .u8 a0_3, .int .i64 a0_4] 23 (0, 0))) ∧ Aside0 (w'.heap[gb393]? = some (.cells #[.int .i64 t388, .int .i64 t389, .int .i64 t390, .int .i64 t391] 28 (0, 0))) ∧ Aside0 (Below w.heap.size w w'))
                  case atStart => exact ⟨(y394), (0), (by (rfl)), H', ⟨Nat.le_refl _⟩, ⟨by (with_reducible skip); exact HO396.out⟩, ⟨by (with_reducible skip); exact BK385.out⟩, ⟨by (with_reducible skip); exact BK393.out⟩, ⟨by repeat (with_reducible (exact HB.out))⟩⟩
                  case round =>
                    clear H'
                    try clear c33b0
                    try clear c33b1
                    try clear c34b0
                    try clear c34b1
                    try clear hcz36_0
                    try clear hcz36_1
                    try clear hcz36_2
                    try clear hcz36_3
                    try clear hcz36_4
                    try clear hfz36_0
                    try clear hfz36_1
                    try clear hfz36_2
                    try clear hfz36_3
                    try clear hfz36_4
                    obtain ⟨x7_3, x8_3, rfl, HA, HK3, HO_7, BK385, BK393, HB⟩ := hrel
                    cases gk with
                    | zero => exact absurd HA.out (by simp [vivariumlaw06_FoldBeside.l0])
                    | succ k3 =>
                      have H := HA.out
                      clear HA
                      simp only [vivariumlaw06_FoldBeside.l0] at H
                      by_cases c39 : x8_3 < (wrap64 (a0_1 * a0_2))
                      · rw [if_pos c39] at H
                        have c39b0 : decide (x8_3 < (wrap64 (a0_1 * a0_2))) = true := decide_eq_true c39
                        clear c39
                        by_cases c40 : a0_1 = 0
                        · rw [if_pos c40] at H
                          exact absurd H (by simp)
                        · rw [if_neg c40] at H
                          have c40b0 : (a0_1 == 0) = false := beq_eq_false_iff_ne.mpr c40
                          have c40b1 : (a0_1 != 0) = true := bne_iff_ne.mpr c40
                          replace H := Option.bind_eq_some_iff.mp H
                          obtain ⟨⟨t398, t399, t400, t401⟩, A410, H⟩ := H
                          replace H : (if t401 = 0 then (if t400 = true then (vivariumlaw06_FoldBeside.j3 k3 (wrap64 (a0_1 * a0_2)) x7_3 x8_3 (!(t398 == (wrap64 (t388 + (Int.tmod x8_3 a0_1)))) || (!(t399 == (wrap64 (t389 + (wrap64 (Int.tdiv x8_3 a0_1))))))) a0_0 a0_1 a0_2 a0_3 a0_4 t388 t389 t390 t391 (wrap64 (t388 + (Int.tmod x8_3 a0_1))) (wrap64 (t389 + (wrap64 (Int.tdiv x8_3 a0_1))))) else (none)) else (none)) = some r := H
                          have A41 := Aside0.mk A410
                          clear A410
                          have HC42 := Aside0.mk H
                          clear H
                          try go_wp2
                          replace HO_7 := Aside0.mk (Kd.R_drew HO_7.out)
                          replace BK385 := Aside0.mk (blk_drew BK385.out)
                          replace BK393 := Aside0.mk (blk_drew BK393.out)
                          replace HB := Aside0.mk (below_drew1 HB.out)
                          refine start_ (n := 17) (S := fun w' => w'.cell? ⟨gb393, 0, none⟩ = some (.int .i64 t388) ∧ w'.cell? ⟨gb393, 1, none⟩ = some (.int .i64 t389) ∧ w'.cell? ⟨gb393, 2, none⟩ = some (.int .i64 t390) ∧ w'.cell? ⟨gb393, 3, none⟩ = some (.int .i64 t391) ∧ w'.cell? ⟨gb385, 0, none⟩ = some (.int .u8 a0_0) ∧ w'.cell? ⟨gb385, 1, none⟩ = some (.int .i64 a0_1) ∧ w'.cell? ⟨gb385, 2, none⟩ = some (.int .i64 a0_2) ∧ w'.cell? ⟨gb385, 3, none⟩ = some (.int .u8 a0_3) ∧ w'.cell? ⟨gb385, 4, none⟩ = some (.int .i64 a0_4)) (ds := []) #[false, false, false, false, false, false, false, false, false, false, false, false, false, false, false, false, false] (by kernel_rfl) rfl rfl ⟨(blk_cell BK393.out 0).trans rfl, (blk_cell BK393.out 1).trans rfl, (blk_cell BK393.out 2).trans rfl, (blk_cell BK393.out 3).trans rfl, (blk_cell BK385.out 0).trans rfl, (blk_cell BK385.out 1).trans rfl, (blk_cell BK385.out 2).trans rfl, (blk_cell BK385.out 3).trans rfl, (blk_cell BK385.out 4).trans rfl⟩ (fun hHeld => ?_); refine with_tabW vivariumlaw06_FoldBeside.tab13 vivariumlaw06_FoldBeside.bits13 (fun HT_ HW_ => ?_)
                          generalize wr.drew = w43 at HO_7 BK385 BK393 HB hHeld ⊢
                          refine pure_ (i := 0) (N := some 88) (v := ?_) (a' := ?_) #[true, false, false, false, false, false, false, false, false, false, false, false, false, false, false, false, false] rfl rfl (any_of HT_.out (by kernel_rfl)) (fun _ _ _ h => h) (Or.inl ⟨by rfl, ?_⟩) ?_ ?_
                          rotate_left
                          · intro w'
                            go_simp
                            with_reducible rfl
                          rotate_left
                          · simp only [Act.put, List.setIfInBounds_toArray, List.set_cons_zero, List.set_cons_succ, i64_w, i32_w]
                            rfl
                          refine pure_ (i := 2) (N := some 90) (v := ?_) (a' := ?_) #[true, false, true, false, false, false, false, false, false, false, false, false, false, false, false, false, false] rfl rfl (any_of HT_.out (by kernel_rfl)) (fun _ _ _ h => h) (Or.inl ⟨by rfl, ?_⟩) ?_ ?_
                          rotate_left
                          · intro w'
                            go_simp
                            with_reducible rfl
                          rotate_left
                          · simp only [Act.put, List.setIfInBounds_toArray, List.set_cons_zero, List.set_cons_succ, i64_w, i32_w]
                            rfl
                          refine pure_ (i := 3) (N := some 91) (v := ?_) (a' := ?_) #[true, false, true, true, false, false, false, false, false, false, false, false, false, false, false, false, false] rfl rfl (any_of HT_.out (by kernel_rfl)) (fun _ _ _ h => h) (Or.inl ⟨by rfl, ?_⟩) ?_ ?_
                          rotate_left
                          · intro w'
                            go_simp
                            with_reducible rfl
                          rotate_left
                          · simp only [Act.put, List.setIfInBounds_toArray, List.set_cons_zero, List.set_cons_succ, i64_w, i32_w]
                            rfl
                          refine pure_ (i := 7) (N := some 95) (v := ?_) (a' := ?_) #[true, false, true, true, false, false, false, true, false, false, false, false, false, false, false, false, false] rfl rfl (any_of HT_.out (by kernel_rfl)) (fun _ _ _ h => h) (Or.inl ⟨by rfl, ?_⟩) ?_ ?_
                          rotate_left
                          · intro w'
                            go_simp
                            with_reducible rfl
                          rotate_left
                          · simp only [Act.put, List.setIfInBounds_toArray, List.set_cons_zero, List.set_cons_succ, i64_w, i32_w]
                            rfl
                          refine pure_ (i := 9) (N := some 97) (v := ?_) (a' := ?_) #[true, false, true, true, false, false, false, true, false, true, false, false, false, false, false, false, false] rfl rfl (any_of HT_.out (by kernel_rfl)) (fun _ _ _ h => h) (Or.inl ⟨by rfl, ?_⟩) ?_ ?_
                          rotate_left
                          · intro w'
                            go_simp
                            with_reducible rfl
                          rotate_left
                          · simp only [Act.put, List.setIfInBounds_toArray, List.set_cons_zero, List.set_cons_succ, i64_w, i32_w]
                            rfl
                          refine pure_ (i := 10) (N := some 98) (v := ?_) (a' := ?_) #[true, false, true, true, false, false, false, true, false, true, true, false, false, false, false, false, false] rfl rfl (any_of HT_.out (by kernel_rfl)) (fun _ _ _ h => h) (Or.inl ⟨by rfl, ?_⟩) ?_ ?_
                          rotate_left
                          · intro w'
                            go_simp
                            with_reducible rfl
                          rotate_left
                          · simp only [Act.put, List.setIfInBounds_toArray, List.set_cons_zero, List.set_cons_succ, i64_w, i32_w]
                            rfl
                          refine take_ (i := 1) (N := some 89) (v := ?_) (a' := ?_) #[true, true, true, true, false, false, false, true, false, true, true, false, false, false, false, false, false] rfl rfl (take_ofW HT_.out HW_.out (by kernel_rfl)) (fun _ _ _ h => h) (Or.inl ⟨by rfl, ?_⟩) hHeld ?_ ?_
                          rotate_left
                          · rintro w' ⟨s0, s1, s2, s3, s4, s5, s6, s7, s8⟩
                            go_simp
                            with_reducible rfl
                          rotate_left
                          · simp only [Act.put, List.setIfInBounds_toArray, List.set_cons_zero, List.set_cons_succ, i64_w, i32_w]
                            rfl
                          refine take_ (i := 4) (N := some 92) (v := ?_) (a' := ?_) #[true, true, true, true, true, false, false, true, false, true, true, false, false, false, false, false, false] rfl rfl (take_ofW HT_.out HW_.out (by kernel_rfl)) (fun _ _ _ h => h) (Or.inl ⟨by rfl, ?_⟩) hHeld ?_ ?_
                          rotate_left
                          · rintro w' ⟨s0, s1, s2, s3, s4, s5, s6, s7, s8⟩
                            go_simp
                            with_reducible rfl
                          rotate_left
                          · simp only [Act.put, List.setIfInBounds_toArray, List.set_cons_zero, List.set_cons_succ, i64_w, i32_w]
                            rfl
                          refine pure_ (i := 5) (N := some 93) (v := ?_) (a' := ?_) #[true, true, true, true, true, true, false, true, false, true, true, false, false, false, false, false, false] rfl rfl (any_of HT_.out (by kernel_rfl)) (fun _ _ _ h => h) (Or.inl ⟨by rfl, ?_⟩) ?_ ?_
                          rotate_left
                          · intro w'
                            go_simp
                            with_reducible rfl
                          rotate_left
                          · simp only [Act.put, List.setIfInBounds_toArray, List.set_cons_zero, List.set_cons_succ, i64_w, i32_w]
                            rfl
                          refine pure_ (i := 6) (N := some 94) (v := ?_) (a' := ?_) #[true, true, true, true, true, true, true, true, false, true, true, false, false, false, false, false, false] rfl rfl (any_of HT_.out (by kernel_rfl)) (fun _ _ _ h => h) (Or.inl ⟨by rfl, ?_⟩) ?_ ?_
                          rotate_left
                          · intro w'
                            go_simp
                            with_reducible rfl
                          rotate_left
                          · simp only [Act.put, List.setIfInBounds_toArray, List.set_cons_zero, List.set_cons_succ, i64_w, i32_w]
                            rfl
                          refine take_ (i := 8) (N := some 96) (v := ?_) (a' := ?_) #[true, true, true, true, true, true, true, true, true, true, true, false, false, false, false, false, false] rfl rfl (take_ofW HT_.out HW_.out (by kernel_rfl)) (fun _ _ _ h => h) (Or.inl ⟨by rfl, ?_⟩) hHeld ?_ ?_
                          rotate_left
                          · rintro w' ⟨s0, s1, s2, s3, s4, s5, s6, s7, s8⟩
                            go_simp
                            with_reducible rfl
                          rotate_left
                          · simp only [Act.put, List.setIfInBounds_toArray, List.set_cons_zero, List.set_cons_succ, i64_w, i32_w]
                            rfl
                          refine take_ (i := 11) (N := some 99) (v := ?_) (a' := ?_) #[true, true, true, true, true, true, true, true, true, true, true, true, false, false, false, false, false] rfl rfl (take_ofW HT_.out HW_.out (by kernel_rfl)) (fun _ _ _ h => h) (Or.inl ⟨by rfl, ?_⟩) hHeld ?_ ?_
                          rotate_left
                          · rintro w' ⟨s0, s1, s2, s3, s4, s5, s6, s7, s8⟩
                            go_simp
                            with_reducible rfl
                          rotate_left
                          · simp only [Act.put, List.setIfInBounds_toArray, List.set_cons_zero, List.set_cons_succ, i64_w, i32_w]
                            rfl
                          refine pure_ (i := 12) (N := some 100) (v := ?_) (a' := ?_) #[true, true, true, true, true, true, true, true, true, true, true, true, true, false, false, false, false] rfl rfl (any_of HT_.out (by kernel_rfl)) (fun _ _ _ h => h) (Or.inl ⟨by rfl, ?_⟩) ?_ ?_
                          rotate_left
                          · intro w'
                            go_simp
                            with_reducible rfl
                          rotate_left
                          · simp only [Act.put, List.setIfInBounds_toArray, List.set_cons_zero, List.set_cons_succ, i64_w, i32_w]
                            rfl
                          refine pure_ (i := 13) (N := some 101) (v := ?_) (a' := ?_) #[true, true, true, true, true, true, true, true, true, true, true, true, true, true, false, false, false] rfl rfl (any_of HT_.out (by kernel_rfl)) (fun _ _ _ h => h) (Or.inl ⟨by rfl, ?_⟩) ?_ ?_
                          rotate_left
                          · intro w'
                            go_simp
                            with_reducible rfl
                          rotate_left
                          · simp only [Act.put, List.setIfInBounds_toArray, List.set_cons_zero, List.set_cons_succ, i64_w, i32_w]
                            rfl
                          refine pure_ (i := 14) (N := some 102) (v := ?_) (a' := ?_) #[true, true, true, true, true, true, true, true, true, true, true, true, true, true, true, false, false] rfl rfl (any_of HT_.out (by kernel_rfl)) (fun _ _ _ h => h) (Or.inl ⟨by rfl, ?_⟩) ?_ ?_
                          rotate_left
                          · intro w'
                            go_simp
                            with_reducible rfl
                          rotate_left
                          · simp only [Act.put, List.setIfInBounds_toArray, List.set_cons_zero, List.set_cons_succ, i64_w, i32_w]
                            rfl
                          refine one_ (i := 15) (N := some 9) #[true, true, true, true, true, true, true, true, true, true, true, true, true, true, true, true, false] rfl rfl (one_of HT_.out (by kernel_rfl)) (by decide) (fun K hK => ?_)
                          refine box_step ?hg (N := 9) ?hd (cs := #[.int .i64 0, .int .i64 0]) (t := 33) ?hr ?_; (case hd => rfl); (case hg => rfl); (case hr => (go_simp; done))
                          intro gb397 hg w44 hbox hb
                          have BK397 := Aside0.mk (hbox)
                          have GW397 := Aside0.mk ((by rw [hg]; exact (below_size HB.out) : w.heap.size ≤ gb397))
                          have GE397 := Aside0.mk ((by rw [hg]; exact (below_size HB.out) : w.heap.size ≤ gb397))
                          have NB385_397 := Aside0.mk ((by rw [hg]; exact Nat.ne_of_lt (blk_lt BK385.out) : gb385 ≠ gb397))
                          have NB397_385 := Aside0.mk ((by rw [hg]; exact Nat.ne_of_gt (blk_lt BK385.out) : gb397 ≠ gb385))
                          have NB393_397 := Aside0.mk ((by rw [hg]; exact Nat.ne_of_lt (blk_lt BK393.out) : gb393 ≠ gb397))
                          have NB397_393 := Aside0.mk ((by rw [hg]; exact Nat.ne_of_gt (blk_lt BK393.out) : gb397 ≠ gb393))
                          replace HO_7 := Aside0.mk (Kd.R_below HO_7.out hb)
                          replace BK385 := Aside0.mk (blk_below BK385.out hb)
                          replace BK393 := Aside0.mk (blk_below BK393.out hb)
                          replace HB := Aside0.mk (below_step HB.out hb)
                          clear hb hbox hg
                          refine hK.out _ _ ⟨(blk_cell BK393.out 0).trans rfl, (blk_cell BK393.out 1).trans rfl, (blk_cell BK393.out 2).trans rfl, (blk_cell BK393.out 3).trans rfl, (blk_cell BK385.out 0).trans rfl, (blk_cell BK385.out 1).trans rfl, (blk_cell BK385.out 2).trans rfl, (blk_cell BK385.out 3).trans rfl, (blk_cell BK385.out 4).trans rfl⟩ (fun hHeld => ?_)
                          clear hK K
                          refine norm_ (a' := ?_) ?_ ?_
                          rotate_left
                          · show Act.put _ (some 9) _ = _
                            simp only [Act.put, List.setIfInBounds_toArray, List.set_cons_zero, List.set_cons_succ, i64_w, i32_w]
                            rfl
                          refine one_ (i := 16) (N := none) #[true, true, true, true, true, true, true, true, true, true, true, true, true, true, true, true, true] rfl rfl (one_of HT_.out (by kernel_rfl)) (by decide) (fun K hK => ?_)
                          have hs45 : w44.cell? ⟨gb397, 0, none⟩ = some (.int .i64 0) := (blk_cell BK397.out 0).trans rfl
                          have hfs45 := blk_frozen BK397.out 0
                          have hns45_0 := NB385_397.out
                          have hns45_1 := NB393_397.out
                          have hms45_0 := NB397_385.out
                          have hms45_1 := NB397_393.out
                          have hs46 : w44.cell? ⟨gb397, 1, none⟩ = some (.int .i64 0) := (blk_cell BK397.out 1).trans rfl
                          have hfs46 := blk_frozen BK397.out 1
                          have hns46_0 := NB385_397.out
                          have hns46_1 := NB393_397.out
                          have hms46_0 := NB397_385.out
                          have hms46_1 := NB397_393.out
                          refine skip_ (w1 := ?_) (by rfl) rfl ?_ ?_
                          rotate_left
                          · go_simp
                            rfl
                          refine hK.out _ _ ⟨((cell_far (p := ⟨gb397, _, none⟩) NB393_397.out _).trans (((cell_far (p := ⟨gb397, _, none⟩) NB393_397.out _).trans (hHeld.1)))), ((cell_far (p := ⟨gb397, _, none⟩) NB393_397.out _).trans (((cell_far (p := ⟨gb397, _, none⟩) NB393_397.out _).trans (hHeld.2.1)))), ((cell_far (p := ⟨gb397, _, none⟩) NB393_397.out _).trans (((cell_far (p := ⟨gb397, _, none⟩) NB393_397.out _).trans (hHeld.2.2.1)))), ((cell_far (p := ⟨gb397, _, none⟩) NB393_397.out _).trans (((cell_far (p := ⟨gb397, _, none⟩) NB393_397.out _).trans (hHeld.2.2.2.1)))), ((cell_far (p := ⟨gb397, _, none⟩) NB385_397.out _).trans (((cell_far (p := ⟨gb397, _, none⟩) NB385_397.out _).trans (hHeld.2.2.2.2.1)))), ((cell_far (p := ⟨gb397, _, none⟩) NB385_397.out _).trans (((cell_far (p := ⟨gb397, _, none⟩) NB385_397.out _).trans (hHeld.2.2.2.2.2.1)))), ((cell_far (p := ⟨gb397, _, none⟩) NB385_397.out _).trans (((cell_far (p := ⟨gb397, _, none⟩) NB385_397.out _).trans (hHeld.2.2.2.2.2.2.1)))), ((cell_far (p := ⟨gb397, _, none⟩) NB385_397.out _).trans (((cell_far (p := ⟨gb397, _, none⟩) NB385_397.out _).trans (hHeld.2.2.2.2.2.2.2.1)))), ((cell_far (p := ⟨gb397, _, none⟩) NB385_397.out _).trans (((cell_far (p := ⟨gb397, _, none⟩) NB385_397.out _).trans (hHeld.2.2.2.2.2.2.2.2))))⟩ (fun hHeld => ?_)
                          clear hK K
                          refine done_ (done_of HT_.out (by kernel_rfl)) ?_
                          have hnb47 := NB385_393.out
                          have hnc47 := NB393_385.out
                          have hnb48 := NB385_397.out
                          have hnc48 := NB397_385.out
                          have hcz49_0 : w44.cell? ⟨gb385, 0, none⟩ = some (.int .u8 a0_0) := (blk_cell BK385.out 0).trans rfl
                          have hcz49_1 : w44.cell? ⟨gb385, 1, none⟩ = some (.int .i64 a0_1) := (blk_cell BK385.out 1).trans rfl
                          have hcz49_2 : w44.cell? ⟨gb385, 2, none⟩ = some (.int .i64 a0_2) := (blk_cell BK385.out 2).trans rfl
                          have hcz49_3 : w44.cell? ⟨gb385, 3, none⟩ = some (.int .u8 a0_3) := (blk_cell BK385.out 3).trans rfl
                          have hcz49_4 : w44.cell? ⟨gb385, 4, none⟩ = some (.int .i64 a0_4) := (blk_cell BK385.out 4).trans rfl
                          have hfz49_0 := blk_frozen BK385.out 0
                          have hfz49_1 := blk_frozen BK385.out 1
                          have hfz49_2 := blk_frozen BK385.out 2
                          have hfz49_3 := blk_frozen BK385.out 3
                          have hfz49_4 := blk_frozen BK385.out 4
                          have hnb50 := NB397_393.out
                          have hnc50 := NB393_397.out
                          have hcz51_0 : w44.cell? ⟨gb397, 0, none⟩ = some (.int .i64 0) := (blk_cell BK397.out 0).trans rfl
                          have hcz51_1 : w44.cell? ⟨gb397, 1, none⟩ = some (.int .i64 0) := (blk_cell BK397.out 1).trans rfl
                          have hfz51_0 := blk_frozen BK397.out 0
                          have hfz51_1 := blk_frozen BK397.out 1
                          go_upto_region 15 with (first | ((with_reducible refine gate_callee (f := 8) rfl ?_); refine goesL_ (some 106) rfl rfl Try.func8 (by kernel_rfl) rfl #[.agg #[.int .u8 a0_0, .int .i64 a0_1, .int .i64 a0_2, .int .u8 a0_3, .int .i64 a0_4], .agg #[.int .i64 (wrap64 (t388 + (Int.tmod x8_3 a0_1))), .int .i64 (wrap64 (t389 + (wrap64 (Int.tdiv x8_3 a0_1))))]] rfl (by (try simp only [List.map_toArray, List.map_cons, List.map_nil]); (rfl)) ?_; (with_reducible refine (fold_Ring.calls k3 a0_0 a0_1 a0_2 a0_3 a0_4 (wrap64 (t388 + (Int.tmod x8_3 a0_1))) (wrap64 (t389 + (wrap64 (Int.tdiv x8_3 a0_1)))) t398 t399 t400 t401 _ A41.out).mono ?_); rintro e w52 ⟨rfl, hb⟩; refine ⟨_, rfl, ?_⟩; replace HO_7 := Aside0.mk (Kd.R_below (by (with_reducible skip); exact (Kd.R_mono (Kd.R_far (p := ⟨gb397, 1, none⟩) (Kd.R_far (p := ⟨gb397, 0, none⟩) (Kd.R_types HO_7.out BK397.out (by decide)) (fun _ hk => hk.2) (.int .i64 (wrap64 (t388 + (Int.tmod x8_3 a0_1))))) (fun _ hk => hk.2) (.int .i64 (wrap64 (t389 + (wrap64 (Int.tdiv x8_3 a0_1)))))) (fun _ h_ => h_.1))) hb); replace BK385 := Aside0.mk (blk_below (blk_far (blk_far BK385.out NB385_397.out _) NB385_397.out _) hb); replace BK393 := Aside0.mk (blk_below (blk_far (blk_far BK393.out NB393_397.out _) NB393_397.out _) hb); replace BK397 := Aside0.mk (blk_below (g := gb397) (o := .cells #[.int .i64 (wrap64 (t388 + (Int.tmod x8_3 a0_1))), .int .i64 (wrap64 (t389 + (wrap64 (Int.tdiv x8_3 a0_1))))] 33 (0, 0)) (by (with_reducible skip); refine blk_put (cs := #[.int .i64 (wrap64 (t388 + (Int.tmod x8_3 a0_1))), .int .i64 0]) ?_ 1 _ rfl; (with_reducible skip); refine blk_put (cs := #[.int .i64 0, .int .i64 0]) ?_ 0 _ rfl; (with_reducible skip); exact BK397.out) hb); replace HB := Aside0.mk (below_step (by repeat (with_reducible first | exact HB.out | refine below_set ?_ GE397.out)) hb); (try clear hb)) | ((with_reducible refine gate_dst (N := 10) rfl ?_); refine box_event ?hg (N := 10) ?hd (cs := #[.int .i64 0, .int .i64 0]) (t := 33) ?hr ?_; (case hd => rfl); (case hg => rfl); (case hr => (go_simp; done)); intro gb402 hg w53 hbox hb; have BK402 := Aside0.mk hbox; have GW402 := Aside0.mk ((by rw [hg]; exact (below_size HB.out) : w.heap.size ≤ gb402)); have GE402 := Aside0.mk ((by rw [hg]; exact (below_size HB.out) : w.heap.size ≤ gb402)); have NB385_402 := Aside0.mk ((by rw [hg]; exact Nat.ne_of_lt (blk_lt BK385.out) : gb385 ≠ gb402)); have NB402_385 := Aside0.mk ((by rw [hg]; exact Nat.ne_of_gt (blk_lt BK385.out) : gb402 ≠ gb385)); have NB393_402 := Aside0.mk ((by rw [hg]; exact Nat.ne_of_lt (blk_lt BK393.out) : gb393 ≠ gb402)); have NB402_393 := Aside0.mk ((by rw [hg]; exact Nat.ne_of_gt (blk_lt BK393.out) : gb402 ≠ gb393)); have NB397_402 := Aside0.mk ((by rw [hg]; exact Nat.ne_of_lt (blk_lt BK397.out) : gb397 ≠ gb402)); have NB402_397 := Aside0.mk ((by rw [hg]; exact Nat.ne_of_gt (blk_lt BK397.out) : gb402 ≠ gb397)); replace HO_7 := Aside0.mk (Kd.R_below HO_7.out hb); replace BK385 := Aside0.mk (blk_below BK385.out hb); replace BK393 := Aside0.mk (blk_below BK393.out hb); replace BK397 := Aside0.mk (blk_below BK397.out hb); replace HB := Aside0.mk (below_step HB.out hb); clear hb hbox hg; have hnb54 := NB402_385.out; have hnc54 := NB385_402.out; have hnb55 := NB402_393.out; have hnc55 := NB393_402.out; have hnb56 := NB402_397.out; have hnc56 := NB397_402.out; have hcz57_0 : w53.cell? ⟨gb402, 0, none⟩ = some (.int .i64 0) := (blk_cell BK402.out 0).trans rfl; have hcz57_1 : w53.cell? ⟨gb402, 1, none⟩ = some (.int .i64 0) := (blk_cell BK402.out 1).trans rfl; have hfz57_0 := blk_frozen BK402.out 0; have hfz57_1 := blk_frozen BK402.out 1))
                          go_cut [120] (fun v120 wc => ∃ (kq : Nat) (x120_41 : Bool), v120 = .bool x120_41 ∧ Aside0 (vivariumlaw06_FoldBeside.j3 kq (wrap64 (a0_1 * a0_2)) x7_3 x8_3 x120_41 a0_0 a0_1 a0_2 a0_3 a0_4 t388 t389 t390 t391 (wrap64 (t388 + (Int.tmod x8_3 a0_1))) (wrap64 (t389 + (wrap64 (Int.tdiv x8_3 a0_1)))) = some r) ∧ Aside0 (kq ≤ k3) ∧ Aside0 (Kd.R (Kd.int .i64) 3 wc w.heap.size (fun _ => True) v395 x7_3) ∧ Aside0 (wc.heap[gb385]? = some (.cells #[.int .u8 a0_0, .int .i64 a0_1, .int .i64 a0_2, .int .u8 a0_3, .int .i64 a0_4] 23 (0, 0))) ∧ Aside0 (wc.heap[gb393]? = some (.cells #[.int .i64 t388, .int .i64 t389, .int .i64 t390, .int .i64 t391] 28 (0, 0))) ∧ Aside0 (wc.heap[gb397]? = some (.cells #[.int .i64 (wrap64 (t388 + (Int.tmod x8_3 a0_1))), .int .i64 (wrap64 (t389 + (wrap64 (Int.tdiv x8_3 a0_1))))] 33 (0, 0))) ∧ Aside0 (wc.heap[gb402]? = some (.cells #[.int .i64 t398, .int .i64 t399] 33 (0, 0))) ∧ Aside0 (Below w.heap.size w wc))
                          case first =>
                            have H := HC42.out
                            clear HC42
                            by_cases c58 : t401 = 0
                            · rw [if_pos c58] at H
                              have c58b0 : (t401 == 0) = true := beq_iff_eq.mpr c58
                              have c58b1 : (t401 != 0) = false := bne_eq_false_iff_eq.mpr c58
                              clear c58
                              (skip)
                              by_cases c59 : t400 = true
                              · subst c59
                                have H1 : (vivariumlaw06_FoldBeside.j3 k3 (wrap64 (a0_1 * a0_2)) x7_3 x8_3 (!(t398 == (wrap64 (t388 + (Int.tmod x8_3 a0_1)))) || (!(t399 == (wrap64 (t389 + (wrap64 (Int.tdiv x8_3 a0_1))))))) a0_0 a0_1 a0_2 a0_3 a0_4 t388 t389 t390 t391 (wrap64 (t388 + (Int.tmod x8_3 a0_1))) (wrap64 (t389 + (wrap64 (Int.tdiv x8_3 a0_1))))) = some r := by rw [if_pos rfl] at H; exact H
                                clear H
                                have H := H1
                                clear H1
                                as_aux_lemma =>
                                  have H' := Aside0.mk H
                                  clear H
                                  have hnb60 := NB402_385.out
                                  have hnc60 := NB385_402.out
                                  have hnb61 := NB402_393.out
                                  have hnc61 := NB393_402.out
                                  have hnb62 := NB402_397.out
                                  have hnc62 := NB397_402.out
                                  have hcz63_0 : w53.cell? ⟨gb402, 0, none⟩ = some (.int .i64 0) := (blk_cell BK402.out 0).trans rfl
                                  have hcz63_1 : w53.cell? ⟨gb402, 1, none⟩ = some (.int .i64 0) := (blk_cell BK402.out 1).trans rfl
                                  have hfz63_0 := blk_frozen BK402.out 0
                                  have hfz63_1 := blk_frozen BK402.out 1
                                  have hnb64 := NB397_385.out
                                  have hnc64 := NB385_397.out
                                  have hnb65 := NB397_393.out
                                  have hnc65 := NB393_397.out
                                  have hcz66_0 : w53.cell? ⟨gb397, 0, none⟩ = some (.int .i64 (wrap64 (t388 + (Int.tmod x8_3 a0_1)))) := (blk_cell BK397.out 0).trans rfl
                                  have hcz66_1 : w53.cell? ⟨gb397, 1, none⟩ = some (.int .i64 (wrap64 (t389 + (wrap64 (Int.tdiv x8_3 a0_1))))) := (blk_cell BK397.out 1).trans rfl
                                  have hfz66_0 := blk_frozen BK397.out 0
                                  have hfz66_1 := blk_frozen BK397.out 1
                                  go_wp2
                                  go_meet
                                  case rel => exact ⟨_, ((!(t398 == (wrap64 (t388 + (Int.tmod x8_3 a0_1)))) || (!(t399 == (wrap64 (t389 + (wrap64 (Int.tdiv x8_3 a0_1)))))))), (by (rfl)), H', ⟨by have := HJ3.out; have := HJ18.out; have := HK3.out; (omega)⟩, ⟨by (with_reducible skip); exact Kd.R_mono (Kd.R_far (p := ⟨gb402, 1, none⟩) (Kd.R_far (p := ⟨gb402, 0, none⟩) (Kd.R_types HO_7.out BK402.out (by decide)) (fun _ hk => hk.2) (.int .i64 t398)) (fun _ hk => hk.2) (.int .i64 t399)) (fun _ hk => trivial)⟩, ⟨by (with_reducible skip); refine blk_far ?_ NB385_402.out _; (with_reducible skip); refine blk_far ?_ NB385_402.out _; (with_reducible skip); exact BK385.out⟩, ⟨by (with_reducible skip); refine blk_far ?_ NB393_402.out _; (with_reducible skip); refine blk_far ?_ NB393_402.out _; (with_reducible skip); exact BK393.out⟩, ⟨by (with_reducible skip); refine blk_far ?_ NB397_402.out _; (with_reducible skip); refine blk_far ?_ NB397_402.out _; (with_reducible skip); exact BK397.out⟩, ⟨by (with_reducible skip); refine blk_put (cs := #[.int .i64 t398, .int .i64 0]) ?_ 1 _ rfl; (with_reducible skip); refine blk_put (cs := #[.int .i64 0, .int .i64 0]) ?_ 0 _ rfl; (with_reducible skip); exact BK402.out⟩, ⟨by repeat (with_reducible first | exact HB.out | refine below_set ?_ GE402.out)⟩⟩
                              · replace c59 := Bool.eq_false_iff.mpr c59
                                subst c59
                                have H1 : (none) = some r := by rw [if_neg (show ¬ (false = true) by decide)] at H; exact H
                                clear H
                                have H := H1
                                clear H1
                                exact absurd H (by simp)
                            · rw [if_neg c58] at H
                              exact absurd H (by simp)
                          case rest =>
                            clear HC42
                            try clear c39b0
                            try clear c40
                            try clear c40b0
                            try clear c40b1
                            try clear hcz49_0
                            try clear hcz49_1
                            try clear hcz49_2
                            try clear hcz49_3
                            try clear hcz49_4
                            try clear hcz51_0
                            try clear hcz51_1
                            try clear hcz57_0
                            try clear hcz57_1
                            try clear hfz49_0
                            try clear hfz49_1
                            try clear hfz49_2
                            try clear hfz49_3
                            try clear hfz49_4
                            try clear hfz51_0
                            try clear hfz51_1
                            try clear hfz57_0
                            try clear hfz57_1
                            obtain ⟨kq, x120_41, rfl, HA, HJ41, HO_7, BK385, BK393, BK397, BK402, HB⟩ := hcut
                            cases kq with
                            | zero => exact absurd HA.out (by simp [vivariumlaw06_FoldBeside.j3])
                            | succ kj41 =>
                              have H := HA.out
                              clear HA
                              simp only [vivariumlaw06_FoldBeside.j3] at H
                              by_cases c67 : x120_41 = true
                              · subst c67
                                have H1 : (none) = some r := by rw [if_pos rfl] at H; exact H
                                clear H
                                have H := H1
                                clear H1
                                exact absurd H (by simp)
                              · replace c67 := Bool.eq_false_iff.mpr c67
                                subst c67
                                have H1 : (vivariumlaw06_FoldBeside.l1 kj41 (wrap64 (a0_1 * a0_2)) x7_3 x8_3 0 a0_0 a0_1 a0_2 a0_3 a0_4 t388 t389 t390 t391 (wrap64 (t388 + (Int.tmod x8_3 a0_1))) (wrap64 (t389 + (wrap64 (Int.tdiv x8_3 a0_1))))) = some r := by rw [if_neg (show ¬ (false = true) by decide)] at H; exact H
                                clear H
                                have H := H1
                                clear H1
                                have H' := Aside0.mk H
                                clear H
                                go_wp2
                                go_loopg [13] kj41 (fun kq v13 w' => ∃ (x7_5 : List Int) (x13_5 : Int), v13 = .int .i64 x13_5 ∧ Aside0 (vivariumlaw06_FoldBeside.l1 kq (wrap64 (a0_1 * a0_2)) x7_5 x8_3 x13_5 a0_0 a0_1 a0_2 a0_3 a0_4 t388 t389 t390 t391 (wrap64 (t388 + (Int.tmod x8_3 a0_1))) (wrap64 (t389 + (wrap64 (Int.tdiv x8_3 a0_1)))) = some r) ∧ Aside0 (kq ≤ kj41) ∧ Aside0 (Kd.R (Kd.int .i64) 3 w' w.heap.size (fun _ => True) v395 x7_5) ∧ Aside0 (w'.heap[gb385]? = some (.cells #[.int .u8 a0_0, .int .i64 a0_1, .int .i64 a0_2, .int .u8 a0_3, .int .i64 a0_4] 23 (0, 0))) ∧ Aside0 (w'.heap[gb393]? = some (.cells #[.int .i64 t388, .int .i64 t389, .int .i64 t390, .int .i64 t391] 28 (0, 0))) ∧ Aside0 (w'.heap[gb397]? = some (.cells #[.int .i64 (wrap64 (t388 + (Int.tmod x8_3 a0_1))), .int .i64 (wrap64 (t389 + (wrap64 (Int.tdiv x8_3 a0_1))))] 33 (0, 0))) ∧ Aside0 (w'.heap[gb402]? = some (.cells #[.int .i64 t398, .int .i64 t399] 33 (0, 0))) ∧ Aside0 (Below w.heap.size w w'))
                                case atStart => exact ⟨(x7_3), (0), (by (rfl)), H', ⟨Nat.le_refl _⟩, ⟨by (with_reducible skip); exact HO_7.out⟩, ⟨by (with_reducible skip); exact BK385.out⟩, ⟨by (with_reducible skip); exact BK393.out⟩, ⟨by (with_reducible skip); exact BK397.out⟩, ⟨by (with_reducible skip); exact BK402.out⟩, ⟨by repeat (with_reducible (exact HB.out))⟩⟩
                                case round =>
                                  clear H'
                                  obtain ⟨x7_5, x13_5, rfl, HA, HK5, HO_7, BK385, BK393, BK397, BK402, HB⟩ := hrel
                                  cases gk with
                                  | zero => exact absurd HA.out (by simp [vivariumlaw06_FoldBeside.l1])
                                  | succ k5 =>
                                    have H := HA.out
                                    clear HA
                                    simp only [vivariumlaw06_FoldBeside.l1] at H
                                    by_cases c68 : x13_5 < 9
                                    · rw [if_pos c68] at H
                                      have c68b0 : decide (x13_5 < 9) = true := decide_eq_true c68
                                      clear c68
                                      replace H := Option.bind_eq_some_iff.mp H
                                      obtain ⟨⟨t404, t405, t406, t407⟩, A690, H⟩ := H
                                      replace H : (if t407 = 0 then (if t406 = true then (vivariumlaw06_FoldBeside.j5 k5 (wrap64 (a0_1 * a0_2)) x7_5 x8_3 x13_5 t406 false a0_0 a0_1 a0_2 a0_3 a0_4 t388 t389 t390 t391 (wrap64 (t388 + (Int.tmod x8_3 a0_1))) (wrap64 (t389 + (wrap64 (Int.tdiv x8_3 a0_1)))) (wrap64 ((wrap64 ((wrap64 (t388 + (Int.tmod x8_3 a0_1))) + (Int.tmod x13_5 3))) - 1)) (wrap64 ((wrap64 ((wrap64 (t389 + (wrap64 (Int.tdiv x8_3 a0_1)))) + (wrap64 (Int.tdiv x13_5 3)))) - 1)) t404 t405) else (vivariumlaw06_FoldBeside.j5 k5 (wrap64 (a0_1 * a0_2)) x7_5 x8_3 x13_5 t406 (a0_0 != 1) a0_0 a0_1 a0_2 a0_3 a0_4 t388 t389 t390 t391 (wrap64 (t388 + (Int.tmod x8_3 a0_1))) (wrap64 (t389 + (wrap64 (Int.tdiv x8_3 a0_1)))) (wrap64 ((wrap64 ((wrap64 (t388 + (Int.tmod x8_3 a0_1))) + (Int.tmod x13_5 3))) - 1)) (wrap64 ((wrap64 ((wrap64 (t389 + (wrap64 (Int.tdiv x8_3 a0_1)))) + (wrap64 (Int.tdiv x13_5 3)))) - 1)) t404 t405)) else (none)) = some r := H
                                      have A69 := Aside0.mk A690
                                      clear A690
                                      have HC70 := Aside0.mk H
                                      clear H
                                      have hnb71 := NB397_385.out
                                      have hnc71 := NB385_397.out
                                      have hnb72 := NB397_393.out
                                      have hnc72 := NB393_397.out
                                      have hnb73 := NB397_402.out
                                      have hnc73 := NB402_397.out
                                      have hcz74_0 : wr.cell? ⟨gb397, 0, none⟩ = some (.int .i64 (wrap64 (t388 + (Int.tmod x8_3 a0_1)))) := (blk_cell BK397.out 0).trans rfl
                                      have hcz74_1 : wr.cell? ⟨gb397, 1, none⟩ = some (.int .i64 (wrap64 (t389 + (wrap64 (Int.tdiv x8_3 a0_1))))) := (blk_cell BK397.out 1).trans rfl
                                      have hfz74_0 := blk_frozen BK397.out 0
                                      have hfz74_1 := blk_frozen BK397.out 1
                                      go_upto_region 22 with (first | ((with_reducible refine gate_dst (N := 14) rfl ?_); refine box_event ?hg (N := 14) ?hd (cs := #[.int .i64 0, .int .i64 0]) (t := 33) ?hr ?_; (case hd => rfl); (case hg => rfl); (case hr => (go_simp; done)); intro gb403 hg w75 hbox hb; have BK403 := Aside0.mk hbox; have GW403 := Aside0.mk ((by rw [hg]; exact (below_size HB.out) : w.heap.size ≤ gb403)); have GE403 := Aside0.mk ((by rw [hg]; exact (below_size HB.out) : w.heap.size ≤ gb403)); have NB385_403 := Aside0.mk ((by rw [hg]; exact Nat.ne_of_lt (blk_lt BK385.out) : gb385 ≠ gb403)); have NB403_385 := Aside0.mk ((by rw [hg]; exact Nat.ne_of_gt (blk_lt BK385.out) : gb403 ≠ gb385)); have NB393_403 := Aside0.mk ((by rw [hg]; exact Nat.ne_of_lt (blk_lt BK393.out) : gb393 ≠ gb403)); have NB403_393 := Aside0.mk ((by rw [hg]; exact Nat.ne_of_gt (blk_lt BK393.out) : gb403 ≠ gb393)); have NB397_403 := Aside0.mk ((by rw [hg]; exact Nat.ne_of_lt (blk_lt BK397.out) : gb397 ≠ gb403)); have NB403_397 := Aside0.mk ((by rw [hg]; exact Nat.ne_of_gt (blk_lt BK397.out) : gb403 ≠ gb397)); have NB402_403 := Aside0.mk ((by rw [hg]; exact Nat.ne_of_lt (blk_lt BK402.out) : gb402 ≠ gb403)); have NB403_402 := Aside0.mk ((by rw [hg]; exact Nat.ne_of_gt (blk_lt BK402.out) : gb403 ≠ gb402)); replace HO_7 := Aside0.mk (Kd.R_below HO_7.out hb); replace BK385 := Aside0.mk (blk_below BK385.out hb); replace BK393 := Aside0.mk (blk_below BK393.out hb); replace BK397 := Aside0.mk (blk_below BK397.out hb); replace BK402 := Aside0.mk (blk_below BK402.out hb); replace HB := Aside0.mk (below_step HB.out hb); clear hb hbox hg; have hnb76 := NB403_385.out; have hnc76 := NB385_403.out; have hnb77 := NB403_393.out; have hnc77 := NB393_403.out; have hnb78 := NB403_397.out; have hnc78 := NB397_403.out; have hnb79 := NB403_402.out; have hnc79 := NB402_403.out; have hcz80_0 : w75.cell? ⟨gb403, 0, none⟩ = some (.int .i64 0) := (blk_cell BK403.out 0).trans rfl; have hcz80_1 : w75.cell? ⟨gb403, 1, none⟩ = some (.int .i64 0) := (blk_cell BK403.out 1).trans rfl; have hfz80_0 := blk_frozen BK403.out 0; have hfz80_1 := blk_frozen BK403.out 1; have hnb81 := NB385_393.out; have hnc81 := NB393_385.out; have hnb82 := NB385_402.out; have hnc82 := NB402_385.out; have hcz83_0 : w75.cell? ⟨gb385, 0, none⟩ = some (.int .u8 a0_0) := (blk_cell BK385.out 0).trans rfl; have hcz83_1 : w75.cell? ⟨gb385, 1, none⟩ = some (.int .i64 a0_1) := (blk_cell BK385.out 1).trans rfl; have hcz83_2 : w75.cell? ⟨gb385, 2, none⟩ = some (.int .i64 a0_2) := (blk_cell BK385.out 2).trans rfl; have hcz83_3 : w75.cell? ⟨gb385, 3, none⟩ = some (.int .u8 a0_3) := (blk_cell BK385.out 3).trans rfl; have hcz83_4 : w75.cell? ⟨gb385, 4, none⟩ = some (.int .i64 a0_4) := (blk_cell BK385.out 4).trans rfl; have hfz83_0 := blk_frozen BK385.out 0; have hfz83_1 := blk_frozen BK385.out 1; have hfz83_2 := blk_frozen BK385.out 2; have hfz83_3 := blk_frozen BK385.out 3; have hfz83_4 := blk_frozen BK385.out 4) | ((with_reducible refine gate_callee (f := 8) rfl ?_); refine goesL_ (some 141) rfl rfl Try.func8 (by kernel_rfl) rfl #[.agg #[.int .u8 a0_0, .int .i64 a0_1, .int .i64 a0_2, .int .u8 a0_3, .int .i64 a0_4], .agg #[.int .i64 (wrap64 ((wrap64 ((wrap64 (t388 + (Int.tmod x8_3 a0_1))) + (Int.tmod x13_5 3))) - 1)), .int .i64 (wrap64 ((wrap64 ((wrap64 (t389 + (wrap64 (Int.tdiv x8_3 a0_1)))) + (wrap64 (Int.tdiv x13_5 3)))) - 1))]] rfl (by (try simp only [List.map_toArray, List.map_cons, List.map_nil]); (rfl)) ?_; (with_reducible refine (fold_Ring.calls k5 a0_0 a0_1 a0_2 a0_3 a0_4 (wrap64 ((wrap64 ((wrap64 (t388 + (Int.tmod x8_3 a0_1))) + (Int.tmod x13_5 3))) - 1)) (wrap64 ((wrap64 ((wrap64 (t389 + (wrap64 (Int.tdiv x8_3 a0_1)))) + (wrap64 (Int.tdiv x13_5 3)))) - 1)) t404 t405 t406 t407 _ A69.out).mono ?_); rintro e w84 ⟨rfl, hb⟩; refine ⟨_, rfl, ?_⟩; replace HO_7 := Aside0.mk (Kd.R_below (by (with_reducible skip); exact (Kd.R_mono (Kd.R_far (p := ⟨gb403, 1, none⟩) (Kd.R_far (p := ⟨gb403, 0, none⟩) (Kd.R_types HO_7.out BK403.out (by decide)) (fun _ hk => hk.2) (.int .i64 (wrap64 ((wrap64 ((wrap64 (t388 + (Int.tmod x8_3 a0_1))) + (Int.tmod x13_5 3))) - 1)))) (fun _ hk => hk.2) (.int .i64 (wrap64 ((wrap64 ((wrap64 (t389 + (wrap64 (Int.tdiv x8_3 a0_1)))) + (wrap64 (Int.tdiv x13_5 3)))) - 1)))) (fun _ h_ => h_.1))) hb); replace BK385 := Aside0.mk (blk_below (blk_far (blk_far BK385.out NB385_403.out _) NB385_403.out _) hb); replace BK393 := Aside0.mk (blk_below (blk_far (blk_far BK393.out NB393_403.out _) NB393_403.out _) hb); replace BK397 := Aside0.mk (blk_below (blk_far (blk_far BK397.out NB397_403.out _) NB397_403.out _) hb); replace BK402 := Aside0.mk (blk_below (blk_far (blk_far BK402.out NB402_403.out _) NB402_403.out _) hb); replace BK403 := Aside0.mk (blk_below (g := gb403) (o := .cells #[.int .i64 (wrap64 ((wrap64 ((wrap64 (t388 + (Int.tmod x8_3 a0_1))) + (Int.tmod x13_5 3))) - 1)), .int .i64 (wrap64 ((wrap64 ((wrap64 (t389 + (wrap64 (Int.tdiv x8_3 a0_1)))) + (wrap64 (Int.tdiv x13_5 3)))) - 1))] 33 (0, 0)) (by (with_reducible skip); refine blk_put (cs := #[.int .i64 (wrap64 ((wrap64 ((wrap64 (t388 + (Int.tmod x8_3 a0_1))) + (Int.tmod x13_5 3))) - 1)), .int .i64 0]) ?_ 1 _ rfl; (with_reducible skip); refine blk_put (cs := #[.int .i64 0, .int .i64 0]) ?_ 0 _ rfl; (with_reducible skip); exact BK403.out) hb); replace HB := Aside0.mk (below_step (by repeat (with_reducible first | exact HB.out | refine below_set ?_ GE403.out)) hb); (try clear hb)) | ((with_reducible refine gate_dst (N := 15) rfl ?_); refine box_event ?hg (N := 15) ?hd (cs := #[.int .i64 0, .int .i64 0]) (t := 33) ?hr ?_; (case hd => rfl); (case hg => rfl); (case hr => (go_simp; done)); intro gb408 hg w85 hbox hb; have BK408 := Aside0.mk hbox; have GW408 := Aside0.mk ((by rw [hg]; exact (below_size HB.out) : w.heap.size ≤ gb408)); have GE408 := Aside0.mk ((by rw [hg]; exact (below_size HB.out) : w.heap.size ≤ gb408)); have NB385_408 := Aside0.mk ((by rw [hg]; exact Nat.ne_of_lt (blk_lt BK385.out) : gb385 ≠ gb408)); have NB408_385 := Aside0.mk ((by rw [hg]; exact Nat.ne_of_gt (blk_lt BK385.out) : gb408 ≠ gb385)); have NB393_408 := Aside0.mk ((by rw [hg]; exact Nat.ne_of_lt (blk_lt BK393.out) : gb393 ≠ gb408)); have NB408_393 := Aside0.mk ((by rw [hg]; exact Nat.ne_of_gt (blk_lt BK393.out) : gb408 ≠ gb393)); have NB397_408 := Aside0.mk ((by rw [hg]; exact Nat.ne_of_lt (blk_lt BK397.out) : gb397 ≠ gb408)); have NB408_397 := Aside0.mk ((by rw [hg]; exact Nat.ne_of_gt (blk_lt BK397.out) : gb408 ≠ gb397)); have NB402_408 := Aside0.mk ((by rw [hg]; exact Nat.ne_of_lt (blk_lt BK402.out) : gb402 ≠ gb408)); have NB408_402 := Aside0.mk ((by rw [hg]; exact Nat.ne_of_gt (blk_lt BK402.out) : gb408 ≠ gb402)); have NB403_408 := Aside0.mk ((by rw [hg]; exact Nat.ne_of_lt (blk_lt BK403.out) : gb403 ≠ gb408)); have NB408_403 := Aside0.mk ((by rw [hg]; exact Nat.ne_of_gt (blk_lt BK403.out) : gb408 ≠ gb403)); replace HO_7 := Aside0.mk (Kd.R_below HO_7.out hb); replace BK385 := Aside0.mk (blk_below BK385.out hb); replace BK393 := Aside0.mk (blk_below BK393.out hb); replace BK397 := Aside0.mk (blk_below BK397.out hb); replace BK402 := Aside0.mk (blk_below BK402.out hb); replace BK403 := Aside0.mk (blk_below BK403.out hb); replace HB := Aside0.mk (below_step HB.out hb); clear hb hbox hg; have hnb86 := NB408_385.out; have hnc86 := NB385_408.out; have hnb87 := NB408_393.out; have hnc87 := NB393_408.out; have hnb88 := NB408_397.out; have hnc88 := NB397_408.out; have hnb89 := NB408_402.out; have hnc89 := NB402_408.out; have hnb90 := NB408_403.out; have hnc90 := NB403_408.out; have hcz91_0 : w85.cell? ⟨gb408, 0, none⟩ = some (.int .i64 0) := (blk_cell BK408.out 0).trans rfl; have hcz91_1 : w85.cell? ⟨gb408, 1, none⟩ = some (.int .i64 0) := (blk_cell BK408.out 1).trans rfl; have hfz91_0 := blk_frozen BK408.out 0; have hfz91_1 := blk_frozen BK408.out 1))
                                      go_cut [155] (fun v155 wc => ∃ (kq : Nat) (x155_69 : Bool), v155 = .bool x155_69 ∧ Aside0 (vivariumlaw06_FoldBeside.j5 kq (wrap64 (a0_1 * a0_2)) x7_5 x8_3 x13_5 t406 x155_69 a0_0 a0_1 a0_2 a0_3 a0_4 t388 t389 t390 t391 (wrap64 (t388 + (Int.tmod x8_3 a0_1))) (wrap64 (t389 + (wrap64 (Int.tdiv x8_3 a0_1)))) (wrap64 ((wrap64 ((wrap64 (t388 + (Int.tmod x8_3 a0_1))) + (Int.tmod x13_5 3))) - 1)) (wrap64 ((wrap64 ((wrap64 (t389 + (wrap64 (Int.tdiv x8_3 a0_1)))) + (wrap64 (Int.tdiv x13_5 3)))) - 1)) t404 t405 = some r) ∧ Aside0 (kq ≤ k5) ∧ Aside0 (Kd.R (Kd.int .i64) 3 wc w.heap.size (fun _ => True) v395 x7_5) ∧ Aside0 (wc.heap[gb385]? = some (.cells #[.int .u8 a0_0, .int .i64 a0_1, .int .i64 a0_2, .int .u8 a0_3, .int .i64 a0_4] 23 (0, 0))) ∧ Aside0 (wc.heap[gb393]? = some (.cells #[.int .i64 t388, .int .i64 t389, .int .i64 t390, .int .i64 t391] 28 (0, 0))) ∧ Aside0 (wc.heap[gb397]? = some (.cells #[.int .i64 (wrap64 (t388 + (Int.tmod x8_3 a0_1))), .int .i64 (wrap64 (t389 + (wrap64 (Int.tdiv x8_3 a0_1))))] 33 (0, 0))) ∧ Aside0 (wc.heap[gb402]? = some (.cells #[.int .i64 t398, .int .i64 t399] 33 (0, 0))) ∧ Aside0 (wc.heap[gb403]? = some (.cells #[.int .i64 (wrap64 ((wrap64 ((wrap64 (t388 + (Int.tmod x8_3 a0_1))) + (Int.tmod x13_5 3))) - 1)), .int .i64 (wrap64 ((wrap64 ((wrap64 (t389 + (wrap64 (Int.tdiv x8_3 a0_1)))) + (wrap64 (Int.tdiv x13_5 3)))) - 1))] 33 (0, 0))) ∧ Aside0 (wc.heap[gb408]? = some (.cells #[.int .i64 t404, .int .i64 t405] 33 (0, 0))) ∧ Aside0 (Below w.heap.size w wc))
                                      case first =>
                                        have H := HC70.out
                                        clear HC70
                                        by_cases c92 : t407 = 0
                                        · rw [if_pos c92] at H
                                          have c92b0 : (t407 == 0) = true := beq_iff_eq.mpr c92
                                          have c92b1 : (t407 != 0) = false := bne_eq_false_iff_eq.mpr c92
                                          clear c92
                                          (skip)
                                          by_cases c93 : t406 = true
                                          · subst c93
                                            have H1 : (vivariumlaw06_FoldBeside.j5 k5 (wrap64 (a0_1 * a0_2)) x7_5 x8_3 x13_5 true false a0_0 a0_1 a0_2 a0_3 a0_4 t388 t389 t390 t391 (wrap64 (t388 + (Int.tmod x8_3 a0_1))) (wrap64 (t389 + (wrap64 (Int.tdiv x8_3 a0_1)))) (wrap64 ((wrap64 ((wrap64 (t388 + (Int.tmod x8_3 a0_1))) + (Int.tmod x13_5 3))) - 1)) (wrap64 ((wrap64 ((wrap64 (t389 + (wrap64 (Int.tdiv x8_3 a0_1)))) + (wrap64 (Int.tdiv x13_5 3)))) - 1)) t404 t405) = some r := by rw [if_pos rfl] at H; exact H
                                            clear H
                                            have H := H1
                                            clear H1
                                            as_aux_lemma =>
                                              have H' := Aside0.mk H
                                              clear H
                                              go_wp2
                                              go_meet
                                              case rel => exact ⟨_, (false), (by (rfl)), H', ⟨by have := HJ3.out; have := HJ18.out; have := HK3.out; have := HJ41.out; have := HK5.out; (omega)⟩, ⟨by (with_reducible skip); exact Kd.R_mono (Kd.R_far (p := ⟨gb408, 1, none⟩) (Kd.R_far (p := ⟨gb408, 0, none⟩) (Kd.R_types HO_7.out BK408.out (by decide)) (fun _ hk => hk.2) (.int .i64 t404)) (fun _ hk => hk.2) (.int .i64 t405)) (fun _ hk => trivial)⟩, ⟨by (with_reducible skip); refine blk_far ?_ NB385_408.out _; (with_reducible skip); refine blk_far ?_ NB385_408.out _; (with_reducible skip); exact BK385.out⟩, ⟨by (with_reducible skip); refine blk_far ?_ NB393_408.out _; (with_reducible skip); refine blk_far ?_ NB393_408.out _; (with_reducible skip); exact BK393.out⟩, ⟨by (with_reducible skip); refine blk_far ?_ NB397_408.out _; (with_reducible skip); refine blk_far ?_ NB397_408.out _; (with_reducible skip); exact BK397.out⟩, ⟨by (with_reducible skip); refine blk_far ?_ NB402_408.out _; (with_reducible skip); refine blk_far ?_ NB402_408.out _; (with_reducible skip); exact BK402.out⟩, ⟨by (with_reducible skip); refine blk_far ?_ NB403_408.out _; (with_reducible skip); refine blk_far ?_ NB403_408.out _; (with_reducible skip); exact BK403.out⟩, ⟨by (with_reducible skip); refine blk_put (cs := #[.int .i64 t404, .int .i64 0]) ?_ 1 _ rfl; (with_reducible skip); refine blk_put (cs := #[.int .i64 0, .int .i64 0]) ?_ 0 _ rfl; (with_reducible skip); exact BK408.out⟩, ⟨by repeat (with_reducible first | exact HB.out | refine below_set ?_ GE408.out)⟩⟩
                                          · replace c93 := Bool.eq_false_iff.mpr c93
                                            subst c93
                                            have H1 : (vivariumlaw06_FoldBeside.j5 k5 (wrap64 (a0_1 * a0_2)) x7_5 x8_3 x13_5 false (a0_0 != 1) a0_0 a0_1 a0_2 a0_3 a0_4 t388 t389 t390 t391 (wrap64 (t388 + (Int.tmod x8_3 a0_1))) (wrap64 (t389 + (wrap64 (Int.tdiv x8_3 a0_1)))) (wrap64 ((wrap64 ((wrap64 (t388 + (Int.tmod x8_3 a0_1))) + (Int.tmod x13_5 3))) - 1)) (wrap64 ((wrap64 ((wrap64 (t389 + (wrap64 (Int.tdiv x8_3 a0_1)))) + (wrap64 (Int.tdiv x13_5 3)))) - 1)) t404 t405) = some r := by rw [if_neg (show ¬ (false = true) by decide)] at H; exact H
                                            clear H
                                            have H := H1
                                            clear H1
                                            as_aux_lemma =>
                                              have H' := Aside0.mk H
                                              clear H
                                              have hnb94 := NB385_393.out
                                              have hnc94 := NB393_385.out
                                              have hnb95 := NB385_397.out
                                              have hnc95 := NB397_385.out
                                              have hnb96 := NB385_402.out
                                              have hnc96 := NB402_385.out
                                              have hnb97 := NB385_403.out
                                              have hnc97 := NB403_385.out
                                              have hnb98 := NB385_408.out
                                              have hnc98 := NB408_385.out
                                              have hcz99_0 : w85.cell? ⟨gb385, 0, none⟩ = some (.int .u8 a0_0) := (blk_cell BK385.out 0).trans rfl
                                              have hcz99_1 : w85.cell? ⟨gb385, 1, none⟩ = some (.int .i64 a0_1) := (blk_cell BK385.out 1).trans rfl
                                              have hcz99_2 : w85.cell? ⟨gb385, 2, none⟩ = some (.int .i64 a0_2) := (blk_cell BK385.out 2).trans rfl
                                              have hcz99_3 : w85.cell? ⟨gb385, 3, none⟩ = some (.int .u8 a0_3) := (blk_cell BK385.out 3).trans rfl
                                              have hcz99_4 : w85.cell? ⟨gb385, 4, none⟩ = some (.int .i64 a0_4) := (blk_cell BK385.out 4).trans rfl
                                              have hfz99_0 := blk_frozen BK385.out 0
                                              have hfz99_1 := blk_frozen BK385.out 1
                                              have hfz99_2 := blk_frozen BK385.out 2
                                              have hfz99_3 := blk_frozen BK385.out 3
                                              have hfz99_4 := blk_frozen BK385.out 4
                                              go_wp2
                                              go_meet
                                              case rel => exact ⟨_, (a0_0 != 1), (by (rfl)), H', ⟨by have := HJ3.out; have := HJ18.out; have := HK3.out; have := HJ41.out; have := HK5.out; (omega)⟩, ⟨by (with_reducible skip); exact Kd.R_mono (Kd.R_far (p := ⟨gb408, 1, none⟩) (Kd.R_far (p := ⟨gb408, 0, none⟩) (Kd.R_types HO_7.out BK408.out (by decide)) (fun _ hk => hk.2) (.int .i64 t404)) (fun _ hk => hk.2) (.int .i64 t405)) (fun _ hk => trivial)⟩, ⟨by (with_reducible skip); refine blk_far ?_ NB385_408.out _; (with_reducible skip); refine blk_far ?_ NB385_408.out _; (with_reducible skip); exact BK385.out⟩, ⟨by (with_reducible skip); refine blk_far ?_ NB393_408.out _; (with_reducible skip); refine blk_far ?_ NB393_408.out _; (with_reducible skip); exact BK393.out⟩, ⟨by (with_reducible skip); refine blk_far ?_ NB397_408.out _; (with_reducible skip); refine blk_far ?_ NB397_408.out _; (with_reducible skip); exact BK397.out⟩, ⟨by (with_reducible skip); refine blk_far ?_ NB402_408.out _; (with_reducible skip); refine blk_far ?_ NB402_408.out _; (with_reducible skip); exact BK402.out⟩, ⟨by (with_reducible skip); refine blk_far ?_ NB403_408.out _; (with_reducible skip); refine blk_far ?_ NB403_408.out _; (with_reducible skip); exact BK403.out⟩, ⟨by (with_reducible skip); refine blk_put (cs := #[.int .i64 t404, .int .i64 0]) ?_ 1 _ rfl; (with_reducible skip); refine blk_put (cs := #[.int .i64 0, .int .i64 0]) ?_ 0 _ rfl; (with_reducible skip); exact BK408.out⟩, ⟨by repeat (with_reducible first | exact HB.out | refine below_set ?_ GE408.out)⟩⟩
                                        · rw [if_neg c92] at H
                                          exact absurd H (by simp)
                                      case rest =>
                                        clear HC70
                                        try clear c68b0
                                        try clear hcz74_0
                                        try clear hcz74_1
                                        try clear hcz80_0
                                        try clear hcz80_1
                                        try clear hcz83_0
                                        try clear hcz83_1
                                        try clear hcz83_2
                                        try clear hcz83_3
                                        try clear hcz83_4
                                        try clear hcz91_0
                                        try clear hcz91_1
                                        try clear hfz74_0
                                        try clear hfz74_1
                                        try clear hfz80_0
                                        try clear hfz80_1
                                        try clear hfz83_0
                                        try clear hfz83_1
                                        try clear hfz83_2
                                        try clear hfz83_3
                                        try clear hfz83_4
                                        try clear hfz91_0
                                        try clear hfz91_1
                                        obtain ⟨kq, x155_69, rfl, HA, HJ69, HO_7, BK385, BK393, BK397, BK402, BK403, BK408, HB⟩ := hcut
                                        cases kq with
                                        | zero => exact absurd HA.out (by simp [vivariumlaw06_FoldBeside.j5])
                                        | succ kj69 =>
                                          have H := HA.out
                                          clear HA
                                          simp only [vivariumlaw06_FoldBeside.j5] at H
                                          by_cases c100 : x155_69 = true
                                          · subst c100
                                            have H1 : (none) = some r := by rw [if_pos rfl] at H; exact H
                                            clear H
                                            have H := H1
                                            clear H1
                                            exact absurd H (by simp)
                                          · replace c100 := Bool.eq_false_iff.mpr c100
                                            subst c100
                                            have H1 : ((fold_Cell.f kj69 a0_0 a0_1 a0_2 a0_3 a0_4 (wrap64 ((wrap64 ((wrap64 (t388 + (Int.tmod x8_3 a0_1))) + (Int.tmod x13_5 3))) - 1)) (wrap64 ((wrap64 ((wrap64 (t389 + (wrap64 (Int.tdiv x8_3 a0_1)))) + (wrap64 (Int.tdiv x13_5 3)))) - 1))).bind fun bt409 => ((vivariumlaw06_glued.f kj69 a0_0 a0_1 a0_2 a0_3 a0_4).bind fun t413 => (if t413 = true then (if bt409.2.2 = 0 then (vivariumlaw06_FoldBeside.j6 kj69 (wrap64 (a0_1 * a0_2)) x7_5 x8_3 x13_5 t406 (!(bt409.1 == t404) || (!(bt409.2.1 == t405))) a0_0 a0_1 a0_2 a0_3 a0_4 t388 t389 t390 t391 (wrap64 (t388 + (Int.tmod x8_3 a0_1))) (wrap64 (t389 + (wrap64 (Int.tdiv x8_3 a0_1)))) t404 t405) else (none)) else (vivariumlaw06_FoldBeside.j6 kj69 (wrap64 (a0_1 * a0_2)) x7_5 x8_3 x13_5 t406 false a0_0 a0_1 a0_2 a0_3 a0_4 t388 t389 t390 t391 (wrap64 (t388 + (Int.tmod x8_3 a0_1))) (wrap64 (t389 + (wrap64 (Int.tdiv x8_3 a0_1)))) t404 t405)))) = some r := by rw [if_neg (show ¬ (false = true) by decide)] at H; exact H
                                            clear H
                                            have H := H1
                                            clear H1
                                            replace H := Option.bind_eq_some_iff.mp H
                                            obtain ⟨⟨t409, t410, t411⟩, A1010, H⟩ := H
                                            replace H : ((vivariumlaw06_glued.f kj69 a0_0 a0_1 a0_2 a0_3 a0_4).bind fun t413 => (if t413 = true then (if t411 = 0 then (vivariumlaw06_FoldBeside.j6 kj69 (wrap64 (a0_1 * a0_2)) x7_5 x8_3 x13_5 t406 (!(t409 == t404) || (!(t410 == t405))) a0_0 a0_1 a0_2 a0_3 a0_4 t388 t389 t390 t391 (wrap64 (t388 + (Int.tmod x8_3 a0_1))) (wrap64 (t389 + (wrap64 (Int.tdiv x8_3 a0_1)))) t404 t405) else (none)) else (vivariumlaw06_FoldBeside.j6 kj69 (wrap64 (a0_1 * a0_2)) x7_5 x8_3 x13_5 t406 false a0_0 a0_1 a0_2 a0_3 a0_4 t388 t389 t390 t391 (wrap64 (t388 + (Int.tmod x8_3 a0_1))) (wrap64 (t389 + (wrap64 (Int.tdiv x8_3 a0_1)))) t404 t405))) = some r := H
                                            have A101 := Aside0.mk A1010
                                            clear A1010
                                            have HC102 := Aside0.mk H
                                            clear H
                                            have hnb103 := NB385_393.out
                                            have hnc103 := NB393_385.out
                                            have hnb104 := NB385_397.out
                                            have hnc104 := NB397_385.out
                                            have hnb105 := NB385_402.out
                                            have hnc105 := NB402_385.out
                                            have hnb106 := NB385_403.out
                                            have hnc106 := NB403_385.out
                                            have hnb107 := NB385_408.out
                                            have hnc107 := NB408_385.out
                                            have hcz108_0 : wc.cell? ⟨gb385, 0, none⟩ = some (.int .u8 a0_0) := (blk_cell BK385.out 0).trans rfl
                                            have hcz108_1 : wc.cell? ⟨gb385, 1, none⟩ = some (.int .i64 a0_1) := (blk_cell BK385.out 1).trans rfl
                                            have hcz108_2 : wc.cell? ⟨gb385, 2, none⟩ = some (.int .i64 a0_2) := (blk_cell BK385.out 2).trans rfl
                                            have hcz108_3 : wc.cell? ⟨gb385, 3, none⟩ = some (.int .u8 a0_3) := (blk_cell BK385.out 3).trans rfl
                                            have hcz108_4 : wc.cell? ⟨gb385, 4, none⟩ = some (.int .i64 a0_4) := (blk_cell BK385.out 4).trans rfl
                                            have hfz108_0 := blk_frozen BK385.out 0
                                            have hfz108_1 := blk_frozen BK385.out 1
                                            have hfz108_2 := blk_frozen BK385.out 2
                                            have hfz108_3 := blk_frozen BK385.out 3
                                            have hfz108_4 := blk_frozen BK385.out 4
                                            have hnb109 := NB403_393.out
                                            have hnc109 := NB393_403.out
                                            have hnb110 := NB403_397.out
                                            have hnc110 := NB397_403.out
                                            have hnb111 := NB403_402.out
                                            have hnc111 := NB402_403.out
                                            have hnb112 := NB403_408.out
                                            have hnc112 := NB408_403.out
                                            have hcz113_0 : wc.cell? ⟨gb403, 0, none⟩ = some (.int .i64 (wrap64 ((wrap64 ((wrap64 (t388 + (Int.tmod x8_3 a0_1))) + (Int.tmod x13_5 3))) - 1))) := (blk_cell BK403.out 0).trans rfl
                                            have hcz113_1 : wc.cell? ⟨gb403, 1, none⟩ = some (.int .i64 (wrap64 ((wrap64 ((wrap64 (t389 + (wrap64 (Int.tdiv x8_3 a0_1)))) + (wrap64 (Int.tdiv x13_5 3)))) - 1))) := (blk_cell BK403.out 1).trans rfl
                                            have hfz113_0 := blk_frozen BK403.out 0
                                            have hfz113_1 := blk_frozen BK403.out 1
                                            go_upto_region 25 with (first | ((with_reducible refine gate_callee (f := 9) rfl ?_); refine goesL_ (some 159) rfl rfl Try.func9 (by kernel_rfl) rfl #[.agg #[.int .u8 a0_0, .int .i64 a0_1, .int .i64 a0_2, .int .u8 a0_3, .int .i64 a0_4], .agg #[.int .i64 (wrap64 ((wrap64 ((wrap64 (t388 + (Int.tmod x8_3 a0_1))) + (Int.tmod x13_5 3))) - 1)), .int .i64 (wrap64 ((wrap64 ((wrap64 (t389 + (wrap64 (Int.tdiv x8_3 a0_1)))) + (wrap64 (Int.tdiv x13_5 3)))) - 1))]] rfl (by (try simp only [List.map_toArray, List.map_cons, List.map_nil]); (rfl)) ?_; (with_reducible refine (fold_Cell.calls kj69 a0_0 a0_1 a0_2 a0_3 a0_4 (wrap64 ((wrap64 ((wrap64 (t388 + (Int.tmod x8_3 a0_1))) + (Int.tmod x13_5 3))) - 1)) (wrap64 ((wrap64 ((wrap64 (t389 + (wrap64 (Int.tdiv x8_3 a0_1)))) + (wrap64 (Int.tdiv x13_5 3)))) - 1)) t409 t410 t411 _ A101.out).mono ?_); rintro e w114 ⟨rfl, hb⟩; refine ⟨_, rfl, ?_⟩; replace HO_7 := Aside0.mk (Kd.R_below HO_7.out hb); replace BK385 := Aside0.mk (blk_below BK385.out hb); replace BK393 := Aside0.mk (blk_below BK393.out hb); replace BK397 := Aside0.mk (blk_below BK397.out hb); replace BK402 := Aside0.mk (blk_below BK402.out hb); replace BK403 := Aside0.mk (blk_below BK403.out hb); replace BK408 := Aside0.mk (blk_below BK408.out hb); replace HB := Aside0.mk (below_step HB.out hb); (try clear hb)) | ((with_reducible refine gate_dst (N := 18) rfl ?_); refine box_event ?hg (N := 18) ?hd (cs := #[.int .i64 0, .int .i64 0]) (t := 33) ?hr ?_; (case hd => rfl); (case hg => rfl); (case hr => (go_simp; done)); intro gb412 hg w115 hbox hb; have BK412 := Aside0.mk hbox; have GW412 := Aside0.mk ((by rw [hg]; exact (below_size HB.out) : w.heap.size ≤ gb412)); have GE412 := Aside0.mk ((by rw [hg]; exact (below_size HB.out) : w.heap.size ≤ gb412)); have NB385_412 := Aside0.mk ((by rw [hg]; exact Nat.ne_of_lt (blk_lt BK385.out) : gb385 ≠ gb412)); have NB412_385 := Aside0.mk ((by rw [hg]; exact Nat.ne_of_gt (blk_lt BK385.out) : gb412 ≠ gb385)); have NB393_412 := Aside0.mk ((by rw [hg]; exact Nat.ne_of_lt (blk_lt BK393.out) : gb393 ≠ gb412)); have NB412_393 := Aside0.mk ((by rw [hg]; exact Nat.ne_of_gt (blk_lt BK393.out) : gb412 ≠ gb393)); have NB397_412 := Aside0.mk ((by rw [hg]; exact Nat.ne_of_lt (blk_lt BK397.out) : gb397 ≠ gb412)); have NB412_397 := Aside0.mk ((by rw [hg]; exact Nat.ne_of_gt (blk_lt BK397.out) : gb412 ≠ gb397)); have NB402_412 := Aside0.mk ((by rw [hg]; exact Nat.ne_of_lt (blk_lt BK402.out) : gb402 ≠ gb412)); have NB412_402 := Aside0.mk ((by rw [hg]; exact Nat.ne_of_gt (blk_lt BK402.out) : gb412 ≠ gb402)); have NB403_412 := Aside0.mk ((by rw [hg]; exact Nat.ne_of_lt (blk_lt BK403.out) : gb403 ≠ gb412)); have NB412_403 := Aside0.mk ((by rw [hg]; exact Nat.ne_of_gt (blk_lt BK403.out) : gb412 ≠ gb403)); have NB408_412 := Aside0.mk ((by rw [hg]; exact Nat.ne_of_lt (blk_lt BK408.out) : gb408 ≠ gb412)); have NB412_408 := Aside0.mk ((by rw [hg]; exact Nat.ne_of_gt (blk_lt BK408.out) : gb412 ≠ gb408)); replace HO_7 := Aside0.mk (Kd.R_below HO_7.out hb); replace BK385 := Aside0.mk (blk_below BK385.out hb); replace BK393 := Aside0.mk (blk_below BK393.out hb); replace BK397 := Aside0.mk (blk_below BK397.out hb); replace BK402 := Aside0.mk (blk_below BK402.out hb); replace BK403 := Aside0.mk (blk_below BK403.out hb); replace BK408 := Aside0.mk (blk_below BK408.out hb); replace HB := Aside0.mk (below_step HB.out hb); clear hb hbox hg; have hnb116 := NB412_385.out; have hnc116 := NB385_412.out; have hnb117 := NB412_393.out; have hnc117 := NB393_412.out; have hnb118 := NB412_397.out; have hnc118 := NB397_412.out; have hnb119 := NB412_402.out; have hnc119 := NB402_412.out; have hnb120 := NB412_403.out; have hnc120 := NB403_412.out; have hnb121 := NB412_408.out; have hnc121 := NB408_412.out; have hcz122_0 : w115.cell? ⟨gb412, 0, none⟩ = some (.int .i64 0) := (blk_cell BK412.out 0).trans rfl; have hcz122_1 : w115.cell? ⟨gb412, 1, none⟩ = some (.int .i64 0) := (blk_cell BK412.out 1).trans rfl; have hfz122_0 := blk_frozen BK412.out 0; have hfz122_1 := blk_frozen BK412.out 1))
                                            go_cut [172] (fun v172 wc => ∃ (kq : Nat) (x172_101 : Bool), v172 = .bool x172_101 ∧ Aside0 (vivariumlaw06_FoldBeside.j6 kq (wrap64 (a0_1 * a0_2)) x7_5 x8_3 x13_5 t406 x172_101 a0_0 a0_1 a0_2 a0_3 a0_4 t388 t389 t390 t391 (wrap64 (t388 + (Int.tmod x8_3 a0_1))) (wrap64 (t389 + (wrap64 (Int.tdiv x8_3 a0_1)))) t404 t405 = some r) ∧ Aside0 (kq ≤ kj69) ∧ Aside0 (Kd.R (Kd.int .i64) 3 wc w.heap.size (fun _ => True) v395 x7_5) ∧ Aside0 (wc.heap[gb385]? = some (.cells #[.int .u8 a0_0, .int .i64 a0_1, .int .i64 a0_2, .int .u8 a0_3, .int .i64 a0_4] 23 (0, 0))) ∧ Aside0 (wc.heap[gb393]? = some (.cells #[.int .i64 t388, .int .i64 t389, .int .i64 t390, .int .i64 t391] 28 (0, 0))) ∧ Aside0 (wc.heap[gb397]? = some (.cells #[.int .i64 (wrap64 (t388 + (Int.tmod x8_3 a0_1))), .int .i64 (wrap64 (t389 + (wrap64 (Int.tdiv x8_3 a0_1))))] 33 (0, 0))) ∧ Aside0 (wc.heap[gb402]? = some (.cells #[.int .i64 t398, .int .i64 t399] 33 (0, 0))) ∧ Aside0 (wc.heap[gb403]? = some (.cells #[.int .i64 (wrap64 ((wrap64 ((wrap64 (t388 + (Int.tmod x8_3 a0_1))) + (Int.tmod x13_5 3))) - 1)), .int .i64 (wrap64 ((wrap64 ((wrap64 (t389 + (wrap64 (Int.tdiv x8_3 a0_1)))) + (wrap64 (Int.tdiv x13_5 3)))) - 1))] 33 (0, 0))) ∧ Aside0 (wc.heap[gb408]? = some (.cells #[.int .i64 t404, .int .i64 t405] 33 (0, 0))) ∧ Aside0 (wc.heap[gb412]? = some (.cells #[.int .i64 t409, .int .i64 t410] 33 (0, 0))) ∧ Aside0 (Below w.heap.size w wc))
                                            case first =>
                                              have H := HC102.out
                                              clear HC102
                                              replace H := Option.bind_eq_some_iff.mp H
                                              obtain ⟨t413, A1230, H⟩ := H
                                              replace H : (if t413 = true then (if t411 = 0 then (vivariumlaw06_FoldBeside.j6 kj69 (wrap64 (a0_1 * a0_2)) x7_5 x8_3 x13_5 t406 (!(t409 == t404) || (!(t410 == t405))) a0_0 a0_1 a0_2 a0_3 a0_4 t388 t389 t390 t391 (wrap64 (t388 + (Int.tmod x8_3 a0_1))) (wrap64 (t389 + (wrap64 (Int.tdiv x8_3 a0_1)))) t404 t405) else (none)) else (vivariumlaw06_FoldBeside.j6 kj69 (wrap64 (a0_1 * a0_2)) x7_5 x8_3 x13_5 t406 false a0_0 a0_1 a0_2 a0_3 a0_4 t388 t389 t390 t391 (wrap64 (t388 + (Int.tmod x8_3 a0_1))) (wrap64 (t389 + (wrap64 (Int.tdiv x8_3 a0_1)))) t404 t405)) = some r := H
                                              have A123 := Aside0.mk A1230
                                              clear A1230
                                              by_cases c124 : t413 = true
                                              · subst c124
                                                have H1 : (if t411 = 0 then (vivariumlaw06_FoldBeside.j6 kj69 (wrap64 (a0_1 * a0_2)) x7_5 x8_3 x13_5 t406 (!(t409 == t404) || (!(t410 == t405))) a0_0 a0_1 a0_2 a0_3 a0_4 t388 t389 t390 t391 (wrap64 (t388 + (Int.tmod x8_3 a0_1))) (wrap64 (t389 + (wrap64 (Int.tdiv x8_3 a0_1)))) t404 t405) else (none)) = some r := by rw [if_pos rfl] at H; exact H
                                                clear H
                                                have H := H1
                                                clear H1
                                                by_cases c125 : t411 = 0
                                                · rw [if_pos c125] at H
                                                  have c125b0 : (t411 == 0) = true := beq_iff_eq.mpr c125
                                                  have c125b1 : (t411 != 0) = false := bne_eq_false_iff_eq.mpr c125
                                                  clear c125
                                                  (skip)
                                                  as_aux_lemma =>
                                                    have H' := Aside0.mk H
                                                    clear H
                                                    have hnb126 := NB385_393.out
                                                    have hnc126 := NB393_385.out
                                                    have hnb127 := NB385_397.out
                                                    have hnc127 := NB397_385.out
                                                    have hnb128 := NB385_402.out
                                                    have hnc128 := NB402_385.out
                                                    have hnb129 := NB385_403.out
                                                    have hnc129 := NB403_385.out
                                                    have hnb130 := NB385_408.out
                                                    have hnc130 := NB408_385.out
                                                    have hnb131 := NB385_412.out
                                                    have hnc131 := NB412_385.out
                                                    have hcz132_0 : w115.cell? ⟨gb385, 0, none⟩ = some (.int .u8 a0_0) := (blk_cell BK385.out 0).trans rfl
                                                    have hcz132_1 : w115.cell? ⟨gb385, 1, none⟩ = some (.int .i64 a0_1) := (blk_cell BK385.out 1).trans rfl
                                                    have hcz132_2 : w115.cell? ⟨gb385, 2, none⟩ = some (.int .i64 a0_2) := (blk_cell BK385.out 2).trans rfl
                                                    have hcz132_3 : w115.cell? ⟨gb385, 3, none⟩ = some (.int .u8 a0_3) := (blk_cell BK385.out 3).trans rfl
                                                    have hcz132_4 : w115.cell? ⟨gb385, 4, none⟩ = some (.int .i64 a0_4) := (blk_cell BK385.out 4).trans rfl
                                                    have hfz132_0 := blk_frozen BK385.out 0
                                                    have hfz132_1 := blk_frozen BK385.out 1
                                                    have hfz132_2 := blk_frozen BK385.out 2
                                                    have hfz132_3 := blk_frozen BK385.out 3
                                                    have hfz132_4 := blk_frozen BK385.out 4
                                                    go_wp2_with ((((with_reducible refine gate_callee (f := 10) rfl ?_); refine goesL_ (some 163) rfl rfl Try.func10 (by kernel_rfl) rfl #[.agg #[.int .u8 a0_0, .int .i64 a0_1, .int .i64 a0_2, .int .u8 a0_3, .int .i64 a0_4]] rfl (by (try simp only [List.map_toArray, List.map_cons, List.map_nil]); (rfl)) ?_; (with_reducible refine (vivariumlaw06_glued.calls kj69 a0_0 a0_1 a0_2 a0_3 a0_4 true _ A123.out).mono ?_); rintro e w133 ⟨rfl, hb⟩; refine ⟨_, rfl, ?_⟩; replace HO_7 := Aside0.mk (Kd.R_below (by (with_reducible skip); exact (Kd.R_mono (Kd.R_far (p := ⟨gb412, 1, none⟩) (Kd.R_far (p := ⟨gb412, 0, none⟩) (Kd.R_types HO_7.out BK412.out (by decide)) (fun _ hk => hk.2) (.int .i64 t409)) (fun _ hk => hk.2) (.int .i64 t410)) (fun _ h_ => h_.1))) hb); replace BK385 := Aside0.mk (blk_below (blk_far (blk_far BK385.out NB385_412.out _) NB385_412.out _) hb); replace BK393 := Aside0.mk (blk_below (blk_far (blk_far BK393.out NB393_412.out _) NB393_412.out _) hb); replace BK397 := Aside0.mk (blk_below (blk_far (blk_far BK397.out NB397_412.out _) NB397_412.out _) hb); replace BK402 := Aside0.mk (blk_below (blk_far (blk_far BK402.out NB402_412.out _) NB402_412.out _) hb); replace BK403 := Aside0.mk (blk_below (blk_far (blk_far BK403.out NB403_412.out _) NB403_412.out _) hb); replace BK408 := Aside0.mk (blk_below (blk_far (blk_far BK408.out NB408_412.out _) NB408_412.out _) hb); replace BK412 := Aside0.mk (blk_below (g := gb412) (o := .cells #[.int .i64 t409, .int .i64 t410] 33 (0, 0)) (by (with_reducible skip); refine blk_put (cs := #[.int .i64 t409, .int .i64 0]) ?_ 1 _ rfl; (with_reducible skip); refine blk_put (cs := #[.int .i64 0, .int .i64 0]) ?_ 0 _ rfl; (with_reducible skip); exact BK412.out) hb); replace HB := Aside0.mk (below_step (by repeat (with_reducible first | exact HB.out | refine below_set ?_ GE412.out)) hb); (try clear hb); have hnb134 := NB412_393.out; have hnc134 := NB393_412.out; have hnb135 := NB412_397.out; have hnc135 := NB397_412.out; have hnb136 := NB412_402.out; have hnc136 := NB402_412.out; have hnb137 := NB412_403.out; have hnc137 := NB403_412.out; have hnb138 := NB412_408.out; have hnc138 := NB408_412.out; have hcz139_0 : w133.cell? ⟨gb412, 0, none⟩ = some (.int .i64 t409) := (blk_cell BK412.out 0).trans rfl; have hcz139_1 : w133.cell? ⟨gb412, 1, none⟩ = some (.int .i64 t410) := (blk_cell BK412.out 1).trans rfl; have hfz139_0 := blk_frozen BK412.out 0; have hfz139_1 := blk_frozen BK412.out 1; have hnb140 := NB408_393.out; have hnc140 := NB393_408.out; have hnb141 := NB408_397.out; have hnc141 := NB397_408.out; have hnb142 := NB408_402.out; have hnc142 := NB402_408.out; have hnb143 := NB408_403.out; have hnc143 := NB403_408.out; have hcz144_0 : w133.cell? ⟨gb408, 0, none⟩ = some (.int .i64 t404) := (blk_cell BK408.out 0).trans rfl; have hcz144_1 : w133.cell? ⟨gb408, 1, none⟩ = some (.int .i64 t405) := (blk_cell BK408.out 1).trans rfl; have hfz144_0 := blk_frozen BK408.out 0; have hfz144_1 := blk_frozen BK408.out 1)))
                                                    go_meet
                                                    case rel => exact ⟨_, ((!(t409 == t404) || (!(t410 == t405)))), (by (rfl)), H', ⟨by have := HJ3.out; have := HJ18.out; have := HK3.out; have := HJ41.out; have := HK5.out; have := HJ69.out; (omega)⟩, ⟨by (with_reducible skip); exact HO_7.out⟩, ⟨by (with_reducible skip); exact BK385.out⟩, ⟨by (with_reducible skip); exact BK393.out⟩, ⟨by (with_reducible skip); exact BK397.out⟩, ⟨by (with_reducible skip); exact BK402.out⟩, ⟨by (with_reducible skip); exact BK403.out⟩, ⟨by (with_reducible skip); exact BK408.out⟩, ⟨by (with_reducible skip); exact BK412.out⟩, ⟨by repeat (with_reducible (exact HB.out))⟩⟩
                                                · rw [if_neg c125] at H
                                                  exact absurd H (by simp)
                                              · replace c124 := Bool.eq_false_iff.mpr c124
                                                subst c124
                                                have H1 : (vivariumlaw06_FoldBeside.j6 kj69 (wrap64 (a0_1 * a0_2)) x7_5 x8_3 x13_5 t406 false a0_0 a0_1 a0_2 a0_3 a0_4 t388 t389 t390 t391 (wrap64 (t388 + (Int.tmod x8_3 a0_1))) (wrap64 (t389 + (wrap64 (Int.tdiv x8_3 a0_1)))) t404 t405) = some r := by rw [if_neg (show ¬ (false = true) by decide)] at H; exact H
                                                clear H
                                                have H := H1
                                                clear H1
                                                as_aux_lemma =>
                                                  have H' := Aside0.mk H
                                                  clear H
                                                  have hnb145 := NB385_393.out
                                                  have hnc145 := NB393_385.out
                                                  have hnb146 := NB385_397.out
                                                  have hnc146 := NB397_385.out
                                                  have hnb147 := NB385_402.out
                                                  have hnc147 := NB402_385.out
                                                  have hnb148 := NB385_403.out
                                                  have hnc148 := NB403_385.out
                                                  have hnb149 := NB385_408.out
                                                  have hnc149 := NB408_385.out
                                                  have hnb150 := NB385_412.out
                                                  have hnc150 := NB412_385.out
                                                  have hcz151_0 : w115.cell? ⟨gb385, 0, none⟩ = some (.int .u8 a0_0) := (blk_cell BK385.out 0).trans rfl
                                                  have hcz151_1 : w115.cell? ⟨gb385, 1, none⟩ = some (.int .i64 a0_1) := (blk_cell BK385.out 1).trans rfl
                                                  have hcz151_2 : w115.cell? ⟨gb385, 2, none⟩ = some (.int .i64 a0_2) := (blk_cell BK385.out 2).trans rfl
                                                  have hcz151_3 : w115.cell? ⟨gb385, 3, none⟩ = some (.int .u8 a0_3) := (blk_cell BK385.out 3).trans rfl
                                                  have hcz151_4 : w115.cell? ⟨gb385, 4, none⟩ = some (.int .i64 a0_4) := (blk_cell BK385.out 4).trans rfl
                                                  have hfz151_0 := blk_frozen BK385.out 0
                                                  have hfz151_1 := blk_frozen BK385.out 1
                                                  have hfz151_2 := blk_frozen BK385.out 2
                                                  have hfz151_3 := blk_frozen BK385.out 3
                                                  have hfz151_4 := blk_frozen BK385.out 4
                                                  go_wp2_with ((((with_reducible refine gate_callee (f := 10) rfl ?_); refine goesL_ (some 163) rfl rfl Try.func10 (by kernel_rfl) rfl #[.agg #[.int .u8 a0_0, .int .i64 a0_1, .int .i64 a0_2, .int .u8 a0_3, .int .i64 a0_4]] rfl (by (try simp only [List.map_toArray, List.map_cons, List.map_nil]); (rfl)) ?_; (with_reducible refine (vivariumlaw06_glued.calls kj69 a0_0 a0_1 a0_2 a0_3 a0_4 false _ A123.out).mono ?_); rintro e w152 ⟨rfl, hb⟩; refine ⟨_, rfl, ?_⟩; replace HO_7 := Aside0.mk (Kd.R_below (by (with_reducible skip); exact (Kd.R_mono (Kd.R_far (p := ⟨gb412, 1, none⟩) (Kd.R_far (p := ⟨gb412, 0, none⟩) (Kd.R_types HO_7.out BK412.out (by decide)) (fun _ hk => hk.2) (.int .i64 t409)) (fun _ hk => hk.2) (.int .i64 t410)) (fun _ h_ => h_.1))) hb); replace BK385 := Aside0.mk (blk_below (blk_far (blk_far BK385.out NB385_412.out _) NB385_412.out _) hb); replace BK393 := Aside0.mk (blk_below (blk_far (blk_far BK393.out NB393_412.out _) NB393_412.out _) hb); replace BK397 := Aside0.mk (blk_below (blk_far (blk_far BK397.out NB397_412.out _) NB397_412.out _) hb); replace BK402 := Aside0.mk (blk_below (blk_far (blk_far BK402.out NB402_412.out _) NB402_412.out _) hb); replace BK403 := Aside0.mk (blk_below (blk_far (blk_far BK403.out NB403_412.out _) NB403_412.out _) hb); replace BK408 := Aside0.mk (blk_below (blk_far (blk_far BK408.out NB408_412.out _) NB408_412.out _) hb); replace BK412 := Aside0.mk (blk_below (g := gb412) (o := .cells #[.int .i64 t409, .int .i64 t410] 33 (0, 0)) (by (with_reducible skip); refine blk_put (cs := #[.int .i64 t409, .int .i64 0]) ?_ 1 _ rfl; (with_reducible skip); refine blk_put (cs := #[.int .i64 0, .int .i64 0]) ?_ 0 _ rfl; (with_reducible skip); exact BK412.out) hb); replace HB := Aside0.mk (below_step (by repeat (with_reducible first | exact HB.out | refine below_set ?_ GE412.out)) hb); (try clear hb))))
                                                  go_meet
                                                  case rel => exact ⟨_, (false), (by (rfl)), H', ⟨by have := HJ3.out; have := HJ18.out; have := HK3.out; have := HJ41.out; have := HK5.out; have := HJ69.out; (omega)⟩, ⟨by (with_reducible skip); exact HO_7.out⟩, ⟨by (with_reducible skip); exact BK385.out⟩, ⟨by (with_reducible skip); exact BK393.out⟩, ⟨by (with_reducible skip); exact BK397.out⟩, ⟨by (with_reducible skip); exact BK402.out⟩, ⟨by (with_reducible skip); exact BK403.out⟩, ⟨by (with_reducible skip); exact BK408.out⟩, ⟨by (with_reducible skip); exact BK412.out⟩, ⟨by repeat (with_reducible (exact HB.out))⟩⟩
                                            case rest =>
                                              clear HC102
                                              try clear hcz108_0
                                              try clear hcz108_1
                                              try clear hcz108_2
                                              try clear hcz108_3
                                              try clear hcz108_4
                                              try clear hcz113_0
                                              try clear hcz113_1
                                              try clear hcz122_0
                                              try clear hcz122_1
                                              try clear hfz108_0
                                              try clear hfz108_1
                                              try clear hfz108_2
                                              try clear hfz108_3
                                              try clear hfz108_4
                                              try clear hfz113_0
                                              try clear hfz113_1
                                              try clear hfz122_0
                                              try clear hfz122_1
                                              obtain ⟨kq, x172_101, rfl, HA, HJ101, HO_7, BK385, BK393, BK397, BK402, BK403, BK408, BK412, HB⟩ := hcut
                                              cases kq with
                                              | zero => exact absurd HA.out (by simp [vivariumlaw06_FoldBeside.j6])
                                              | succ kj101 =>
                                                have H := HA.out
                                                clear HA
                                                simp only [vivariumlaw06_FoldBeside.j6] at H
                                                by_cases c153 : x172_101 = true
                                                · subst c153
                                                  have H1 : (none) = some r := by rw [if_pos rfl] at H; exact H
                                                  clear H
                                                  have H := H1
                                                  clear H1
                                                  exact absurd H (by simp)
                                                · replace c153 := Bool.eq_false_iff.mpr c153
                                                  subst c153
                                                  have H1 : (if t406 = true then (if t404 < t388 then (none) else (if t404 ≥ (wrap64 (t388 + a0_1)) then (none) else (if (wrap64 ((wrap64 (t404 - t388)) + (wrap64 (a0_1 * (wrap64 (t405 - t389)))))) < 0 then (none) else (vivariumlaw06_FoldBeside.j7 kj101 (wrap64 (a0_1 * a0_2)) x7_5 x8_3 x13_5 t406 (wrap64 ((wrap64 (t404 - t388)) + (wrap64 (a0_1 * (wrap64 (t405 - t389)))))) (decide ((wrap64 ((wrap64 (t404 - t388)) + (wrap64 (a0_1 * (wrap64 (t405 - t389)))))) ≥ (wrap64 (a0_1 * a0_2)))) a0_0 a0_1 a0_2 a0_3 a0_4 t388 t389 t390 t391 (wrap64 (t388 + (Int.tmod x8_3 a0_1))) (wrap64 (t389 + (wrap64 (Int.tdiv x8_3 a0_1)))))))) else (vivariumlaw06_FoldBeside.j7 kj101 (wrap64 (a0_1 * a0_2)) x7_5 x8_3 x13_5 t406 (wrap64 ((wrap64 (t404 - t388)) + (wrap64 (a0_1 * (wrap64 (t405 - t389)))))) false a0_0 a0_1 a0_2 a0_3 a0_4 t388 t389 t390 t391 (wrap64 (t388 + (Int.tmod x8_3 a0_1))) (wrap64 (t389 + (wrap64 (Int.tdiv x8_3 a0_1)))))) = some r := by rw [if_neg (show ¬ (false = true) by decide)] at H; exact H
                                                  clear H
                                                  have H := H1
                                                  clear H1
                                                  have HC154 := Aside0.mk H
                                                  clear H
                                                  have hnb155 := NB408_385.out
                                                  have hnc155 := NB385_408.out
                                                  have hnb156 := NB408_393.out
                                                  have hnc156 := NB393_408.out
                                                  have hnb157 := NB408_397.out
                                                  have hnc157 := NB397_408.out
                                                  have hnb158 := NB408_402.out
                                                  have hnc158 := NB402_408.out
                                                  have hnb159 := NB408_403.out
                                                  have hnc159 := NB403_408.out
                                                  have hnb160 := NB408_412.out
                                                  have hnc160 := NB412_408.out
                                                  have hcz161_0 : wc.cell? ⟨gb408, 0, none⟩ = some (.int .i64 t404) := (blk_cell BK408.out 0).trans rfl
                                                  have hcz161_1 : wc.cell? ⟨gb408, 1, none⟩ = some (.int .i64 t405) := (blk_cell BK408.out 1).trans rfl
                                                  have hfz161_0 := blk_frozen BK408.out 0
                                                  have hfz161_1 := blk_frozen BK408.out 1
                                                  have hnb162 := NB393_385.out
                                                  have hnc162 := NB385_393.out
                                                  have hnb163 := NB393_397.out
                                                  have hnc163 := NB397_393.out
                                                  have hnb164 := NB393_402.out
                                                  have hnc164 := NB402_393.out
                                                  have hnb165 := NB393_403.out
                                                  have hnc165 := NB403_393.out
                                                  have hnb166 := NB393_412.out
                                                  have hnc166 := NB412_393.out
                                                  have hcz167_0 : wc.cell? ⟨gb393, 0, none⟩ = some (.int .i64 t388) := (blk_cell BK393.out 0).trans rfl
                                                  have hcz167_1 : wc.cell? ⟨gb393, 1, none⟩ = some (.int .i64 t389) := (blk_cell BK393.out 1).trans rfl
                                                  have hcz167_2 : wc.cell? ⟨gb393, 2, none⟩ = some (.int .i64 t390) := (blk_cell BK393.out 2).trans rfl
                                                  have hcz167_3 : wc.cell? ⟨gb393, 3, none⟩ = some (.int .i64 t391) := (blk_cell BK393.out 3).trans rfl
                                                  have hfz167_0 := blk_frozen BK393.out 0
                                                  have hfz167_1 := blk_frozen BK393.out 1
                                                  have hfz167_2 := blk_frozen BK393.out 2
                                                  have hfz167_3 := blk_frozen BK393.out 3
                                                  have hnb168 := NB385_397.out
                                                  have hnc168 := NB397_385.out
                                                  have hnb169 := NB385_402.out
                                                  have hnc169 := NB402_385.out
                                                  have hnb170 := NB385_403.out
                                                  have hnc170 := NB403_385.out
                                                  have hnb171 := NB385_412.out
                                                  have hnc171 := NB412_385.out
                                                  have hcz172_0 : wc.cell? ⟨gb385, 0, none⟩ = some (.int .u8 a0_0) := (blk_cell BK385.out 0).trans rfl
                                                  have hcz172_1 : wc.cell? ⟨gb385, 1, none⟩ = some (.int .i64 a0_1) := (blk_cell BK385.out 1).trans rfl
                                                  have hcz172_2 : wc.cell? ⟨gb385, 2, none⟩ = some (.int .i64 a0_2) := (blk_cell BK385.out 2).trans rfl
                                                  have hcz172_3 : wc.cell? ⟨gb385, 3, none⟩ = some (.int .u8 a0_3) := (blk_cell BK385.out 3).trans rfl
                                                  have hcz172_4 : wc.cell? ⟨gb385, 4, none⟩ = some (.int .i64 a0_4) := (blk_cell BK385.out 4).trans rfl
                                                  have hfz172_0 := blk_frozen BK385.out 0
                                                  have hfz172_1 := blk_frozen BK385.out 1
                                                  have hfz172_2 := blk_frozen BK385.out 2
                                                  have hfz172_3 := blk_frozen BK385.out 3
                                                  have hfz172_4 := blk_frozen BK385.out 4
                                                  go_upto_region 28 with (fail)
                                                  go_cut [213] (fun v213 wc => ∃ (kq : Nat) (x213_153 : Bool), v213 = .bool x213_153 ∧ Aside0 (vivariumlaw06_FoldBeside.j7 kq (wrap64 (a0_1 * a0_2)) x7_5 x8_3 x13_5 t406 (wrap64 ((wrap64 (t404 - t388)) + (wrap64 (a0_1 * (wrap64 (t405 - t389)))))) x213_153 a0_0 a0_1 a0_2 a0_3 a0_4 t388 t389 t390 t391 (wrap64 (t388 + (Int.tmod x8_3 a0_1))) (wrap64 (t389 + (wrap64 (Int.tdiv x8_3 a0_1)))) = some r) ∧ Aside0 (kq ≤ kj101) ∧ Aside0 (Kd.R (Kd.int .i64) 3 wc w.heap.size (fun _ => True) v395 x7_5) ∧ Aside0 (wc.heap[gb385]? = some (.cells #[.int .u8 a0_0, .int .i64 a0_1, .int .i64 a0_2, .int .u8 a0_3, .int .i64 a0_4] 23 (0, 0))) ∧ Aside0 (wc.heap[gb393]? = some (.cells #[.int .i64 t388, .int .i64 t389, .int .i64 t390, .int .i64 t391] 28 (0, 0))) ∧ Aside0 (wc.heap[gb397]? = some (.cells #[.int .i64 (wrap64 (t388 + (Int.tmod x8_3 a0_1))), .int .i64 (wrap64 (t389 + (wrap64 (Int.tdiv x8_3 a0_1))))] 33 (0, 0))) ∧ Aside0 (wc.heap[gb402]? = some (.cells #[.int .i64 t398, .int .i64 t399] 33 (0, 0))) ∧ Aside0 (wc.heap[gb403]? = some (.cells #[.int .i64 (wrap64 ((wrap64 ((wrap64 (t388 + (Int.tmod x8_3 a0_1))) + (Int.tmod x13_5 3))) - 1)), .int .i64 (wrap64 ((wrap64 ((wrap64 (t389 + (wrap64 (Int.tdiv x8_3 a0_1)))) + (wrap64 (Int.tdiv x13_5 3)))) - 1))] 33 (0, 0))) ∧ Aside0 (wc.heap[gb408]? = some (.cells #[.int .i64 t404, .int .i64 t405] 33 (0, 0))) ∧ Aside0 (wc.heap[gb412]? = some (.cells #[.int .i64 t409, .int .i64 t410] 33 (0, 0))) ∧ Aside0 (Below w.heap.size w wc))
                                                  case first =>
                                                    have H := HC154.out
                                                    clear HC154
                                                    by_cases c173 : t406 = true
                                                    · subst c173
                                                      have H1 : (if t404 < t388 then (none) else (if t404 ≥ (wrap64 (t388 + a0_1)) then (none) else (if (wrap64 ((wrap64 (t404 - t388)) + (wrap64 (a0_1 * (wrap64 (t405 - t389)))))) < 0 then (none) else (vivariumlaw06_FoldBeside.j7 kj101 (wrap64 (a0_1 * a0_2)) x7_5 x8_3 x13_5 true (wrap64 ((wrap64 (t404 - t388)) + (wrap64 (a0_1 * (wrap64 (t405 - t389)))))) (decide ((wrap64 ((wrap64 (t404 - t388)) + (wrap64 (a0_1 * (wrap64 (t405 - t389)))))) ≥ (wrap64 (a0_1 * a0_2)))) a0_0 a0_1 a0_2 a0_3 a0_4 t388 t389 t390 t391 (wrap64 (t388 + (Int.tmod x8_3 a0_1))) (wrap64 (t389 + (wrap64 (Int.tdiv x8_3 a0_1)))))))) = some r := by rw [if_pos rfl] at H; exact H
                                                      clear H
                                                      have H := H1
                                                      clear H1
                                                      by_cases c174 : t404 < t388
                                                      · rw [if_pos c174] at H
                                                        exact absurd H (by simp)
                                                      · rw [if_neg c174] at H
                                                        have c174b0 : decide (t404 < t388) = false := decide_eq_false c174
                                                        clear c174
                                                        (skip)
                                                        by_cases c175 : t404 ≥ (wrap64 (t388 + a0_1))
                                                        · rw [if_pos c175] at H
                                                          exact absurd H (by simp)
                                                        · rw [if_neg c175] at H
                                                          have c175b0 : decide ((wrap64 (t388 + a0_1)) ≤ t404) = false := decide_eq_false c175
                                                          clear c175
                                                          by_cases c176 : (wrap64 ((wrap64 (t404 - t388)) + (wrap64 (a0_1 * (wrap64 (t405 - t389)))))) < 0
                                                          · rw [if_pos c176] at H
                                                            exact absurd H (by simp)
                                                          · rw [if_neg c176] at H
                                                            have c176b0 : decide ((wrap64 ((wrap64 (t404 - t388)) + (wrap64 (a0_1 * (wrap64 (t405 - t389)))))) < 0) = false := decide_eq_false c176
                                                            clear c176
                                                            as_aux_lemma =>
                                                              have H' := Aside0.mk H
                                                              clear H
                                                              have hnb177 := NB408_385.out
                                                              have hnc177 := NB385_408.out
                                                              have hnb178 := NB408_393.out
                                                              have hnc178 := NB393_408.out
                                                              have hnb179 := NB408_397.out
                                                              have hnc179 := NB397_408.out
                                                              have hnb180 := NB408_402.out
                                                              have hnc180 := NB402_408.out
                                                              have hnb181 := NB408_403.out
                                                              have hnc181 := NB403_408.out
                                                              have hnb182 := NB408_412.out
                                                              have hnc182 := NB412_408.out
                                                              have hcz183_0 : wc.cell? ⟨gb408, 0, none⟩ = some (.int .i64 t404) := (blk_cell BK408.out 0).trans rfl
                                                              have hcz183_1 : wc.cell? ⟨gb408, 1, none⟩ = some (.int .i64 t405) := (blk_cell BK408.out 1).trans rfl
                                                              have hfz183_0 := blk_frozen BK408.out 0
                                                              have hfz183_1 := blk_frozen BK408.out 1
                                                              have hnb184 := NB393_385.out
                                                              have hnc184 := NB385_393.out
                                                              have hnb185 := NB393_397.out
                                                              have hnc185 := NB397_393.out
                                                              have hnb186 := NB393_402.out
                                                              have hnc186 := NB402_393.out
                                                              have hnb187 := NB393_403.out
                                                              have hnc187 := NB403_393.out
                                                              have hnb188 := NB393_412.out
                                                              have hnc188 := NB412_393.out
                                                              have hcz189_0 : wc.cell? ⟨gb393, 0, none⟩ = some (.int .i64 t388) := (blk_cell BK393.out 0).trans rfl
                                                              have hcz189_1 : wc.cell? ⟨gb393, 1, none⟩ = some (.int .i64 t389) := (blk_cell BK393.out 1).trans rfl
                                                              have hcz189_2 : wc.cell? ⟨gb393, 2, none⟩ = some (.int .i64 t390) := (blk_cell BK393.out 2).trans rfl
                                                              have hcz189_3 : wc.cell? ⟨gb393, 3, none⟩ = some (.int .i64 t391) := (blk_cell BK393.out 3).trans rfl
                                                              have hfz189_0 := blk_frozen BK393.out 0
                                                              have hfz189_1 := blk_frozen BK393.out 1
                                                              have hfz189_2 := blk_frozen BK393.out 2
                                                              have hfz189_3 := blk_frozen BK393.out 3
                                                              have hnb190 := NB385_397.out
                                                              have hnc190 := NB397_385.out
                                                              have hnb191 := NB385_402.out
                                                              have hnc191 := NB402_385.out
                                                              have hnb192 := NB385_403.out
                                                              have hnc192 := NB403_385.out
                                                              have hnb193 := NB385_412.out
                                                              have hnc193 := NB412_385.out
                                                              have hcz194_0 : wc.cell? ⟨gb385, 0, none⟩ = some (.int .u8 a0_0) := (blk_cell BK385.out 0).trans rfl
                                                              have hcz194_1 : wc.cell? ⟨gb385, 1, none⟩ = some (.int .i64 a0_1) := (blk_cell BK385.out 1).trans rfl
                                                              have hcz194_2 : wc.cell? ⟨gb385, 2, none⟩ = some (.int .i64 a0_2) := (blk_cell BK385.out 2).trans rfl
                                                              have hcz194_3 : wc.cell? ⟨gb385, 3, none⟩ = some (.int .u8 a0_3) := (blk_cell BK385.out 3).trans rfl
                                                              have hcz194_4 : wc.cell? ⟨gb385, 4, none⟩ = some (.int .i64 a0_4) := (blk_cell BK385.out 4).trans rfl
                                                              have hfz194_0 := blk_frozen BK385.out 0
                                                              have hfz194_1 := blk_frozen BK385.out 1
                                                              have hfz194_2 := blk_frozen BK385.out 2
                                                              have hfz194_3 := blk_frozen BK385.out 3
                                                              have hfz194_4 := blk_frozen BK385.out 4
                                                              go_wp2
                                                              go_meet
                                                              case rel => exact ⟨_, (decide ((wrap64 ((wrap64 (t404 - t388)) + (wrap64 (a0_1 * (wrap64 (t405 - t389)))))) ≥ (wrap64 (a0_1 * a0_2)))), (by (rfl)), H', ⟨by have := HJ3.out; have := HJ18.out; have := HK3.out; have := HJ41.out; have := HK5.out; have := HJ69.out; have := HJ101.out; (omega)⟩, ⟨by (with_reducible skip); exact HO_7.out⟩, ⟨by (with_reducible skip); exact BK385.out⟩, ⟨by (with_reducible skip); exact BK393.out⟩, ⟨by (with_reducible skip); exact BK397.out⟩, ⟨by (with_reducible skip); exact BK402.out⟩, ⟨by (with_reducible skip); exact BK403.out⟩, ⟨by (with_reducible skip); exact BK408.out⟩, ⟨by (with_reducible skip); exact BK412.out⟩, ⟨by repeat (with_reducible (exact HB.out))⟩⟩
                                                    · replace c173 := Bool.eq_false_iff.mpr c173
                                                      subst c173
                                                      have H1 : (vivariumlaw06_FoldBeside.j7 kj101 (wrap64 (a0_1 * a0_2)) x7_5 x8_3 x13_5 false (wrap64 ((wrap64 (t404 - t388)) + (wrap64 (a0_1 * (wrap64 (t405 - t389)))))) false a0_0 a0_1 a0_2 a0_3 a0_4 t388 t389 t390 t391 (wrap64 (t388 + (Int.tmod x8_3 a0_1))) (wrap64 (t389 + (wrap64 (Int.tdiv x8_3 a0_1))))) = some r := by rw [if_neg (show ¬ (false = true) by decide)] at H; exact H
                                                      clear H
                                                      have H := H1
                                                      clear H1
                                                      as_aux_lemma =>
                                                        have H' := Aside0.mk H
                                                        clear H
                                                        go_wp2
                                                        go_meet
                                                        case rel => exact ⟨_, (false), (by (rfl)), H', ⟨by have := HJ3.out; have := HJ18.out; have := HK3.out; have := HJ41.out; have := HK5.out; have := HJ69.out; have := HJ101.out; (omega)⟩, ⟨by (with_reducible skip); exact HO_7.out⟩, ⟨by (with_reducible skip); exact BK385.out⟩, ⟨by (with_reducible skip); exact BK393.out⟩, ⟨by (with_reducible skip); exact BK397.out⟩, ⟨by (with_reducible skip); exact BK402.out⟩, ⟨by (with_reducible skip); exact BK403.out⟩, ⟨by (with_reducible skip); exact BK408.out⟩, ⟨by (with_reducible skip); exact BK412.out⟩, ⟨by repeat (with_reducible (exact HB.out))⟩⟩
                                                  case rest =>
                                                    clear HC154
                                                    try clear hcz161_0
                                                    try clear hcz161_1
                                                    try clear hcz167_0
                                                    try clear hcz167_1
                                                    try clear hcz167_2
                                                    try clear hcz167_3
                                                    try clear hcz172_0
                                                    try clear hcz172_1
                                                    try clear hcz172_2
                                                    try clear hcz172_3
                                                    try clear hcz172_4
                                                    try clear hfz161_0
                                                    try clear hfz161_1
                                                    try clear hfz167_0
                                                    try clear hfz167_1
                                                    try clear hfz167_2
                                                    try clear hfz167_3
                                                    try clear hfz172_0
                                                    try clear hfz172_1
                                                    try clear hfz172_2
                                                    try clear hfz172_3
                                                    try clear hfz172_4
                                                    obtain ⟨kq, x213_153, rfl, HA, HJ153, HO_7, BK385, BK393, BK397, BK402, BK403, BK408, BK412, HB⟩ := hcut
                                                    cases kq with
                                                    | zero => exact absurd HA.out (by simp [vivariumlaw06_FoldBeside.j7])
                                                    | succ kj153 =>
                                                      have H := HA.out
                                                      clear HA
                                                      simp only [vivariumlaw06_FoldBeside.j7] at H
                                                      by_cases c195 : x213_153 = true
                                                      · subst c195
                                                        have H1 : (none) = some r := by rw [if_pos rfl] at H; exact H
                                                        clear H
                                                        have H := H1
                                                        clear H1
                                                        exact absurd H (by simp)
                                                      · replace c195 := Bool.eq_false_iff.mpr c195
                                                        subst c195
                                                        have H1 : (if t406 = true then (if x13_5 = 4 then (vivariumlaw06_FoldBeside.l1 kj153 (wrap64 (a0_1 * a0_2)) x7_5 x8_3 (wrap64 (x13_5 + 1)) a0_0 a0_1 a0_2 a0_3 a0_4 t388 t389 t390 t391 (wrap64 (t388 + (Int.tmod x8_3 a0_1))) (wrap64 (t389 + (wrap64 (Int.tdiv x8_3 a0_1))))) else (if 0 ≤ (wrap64 ((wrap64 ((wrap64 (a0_1 * a0_2)) * x8_3)) + (wrap64 ((wrap64 (t404 - t388)) + (wrap64 (a0_1 * (wrap64 (t405 - t389)))))))) then (if (wrap64 ((wrap64 ((wrap64 (a0_1 * a0_2)) * x8_3)) + (wrap64 ((wrap64 (t404 - t388)) + (wrap64 (a0_1 * (wrap64 (t405 - t389)))))))) < (x7_5.length : Int) then (vivariumlaw06_FoldBeside.l1 kj153 (wrap64 (a0_1 * a0_2)) (x7_5.set ((wrap64 ((wrap64 ((wrap64 (a0_1 * a0_2)) * x8_3)) + (wrap64 ((wrap64 (t404 - t388)) + (wrap64 (a0_1 * (wrap64 (t405 - t389)))))))) : Int).toNat (wrap64 ((rd x7_5 (wrap64 ((wrap64 ((wrap64 (a0_1 * a0_2)) * x8_3)) + (wrap64 ((wrap64 (t404 - t388)) + (wrap64 (a0_1 * (wrap64 (t405 - t389))))))))) + 1))) x8_3 (wrap64 (x13_5 + 1)) a0_0 a0_1 a0_2 a0_3 a0_4 t388 t389 t390 t391 (wrap64 (t388 + (Int.tmod x8_3 a0_1))) (wrap64 (t389 + (wrap64 (Int.tdiv x8_3 a0_1))))) else (none)) else (none))) else (vivariumlaw06_FoldBeside.l1 kj153 (wrap64 (a0_1 * a0_2)) x7_5 x8_3 (wrap64 (x13_5 + 1)) a0_0 a0_1 a0_2 a0_3 a0_4 t388 t389 t390 t391 (wrap64 (t388 + (Int.tmod x8_3 a0_1))) (wrap64 (t389 + (wrap64 (Int.tdiv x8_3 a0_1)))))) = some r := by rw [if_neg (show ¬ (false = true) by decide)] at H; exact H
                                                        clear H
                                                        have H := H1
                                                        clear H1
                                                        by_cases c196 : t406 = true
                                                        · subst c196
                                                          have H1 : (if x13_5 = 4 then (vivariumlaw06_FoldBeside.l1 kj153 (wrap64 (a0_1 * a0_2)) x7_5 x8_3 (wrap64 (x13_5 + 1)) a0_0 a0_1 a0_2 a0_3 a0_4 t388 t389 t390 t391 (wrap64 (t388 + (Int.tmod x8_3 a0_1))) (wrap64 (t389 + (wrap64 (Int.tdiv x8_3 a0_1))))) else (if 0 ≤ (wrap64 ((wrap64 ((wrap64 (a0_1 * a0_2)) * x8_3)) + (wrap64 ((wrap64 (t404 - t388)) + (wrap64 (a0_1 * (wrap64 (t405 - t389)))))))) then (if (wrap64 ((wrap64 ((wrap64 (a0_1 * a0_2)) * x8_3)) + (wrap64 ((wrap64 (t404 - t388)) + (wrap64 (a0_1 * (wrap64 (t405 - t389)))))))) < (x7_5.length : Int) then (vivariumlaw06_FoldBeside.l1 kj153 (wrap64 (a0_1 * a0_2)) (x7_5.set ((wrap64 ((wrap64 ((wrap64 (a0_1 * a0_2)) * x8_3)) + (wrap64 ((wrap64 (t404 - t388)) + (wrap64 (a0_1 * (wrap64 (t405 - t389)))))))) : Int).toNat (wrap64 ((rd x7_5 (wrap64 ((wrap64 ((wrap64 (a0_1 * a0_2)) * x8_3)) + (wrap64 ((wrap64 (t404 - t388)) + (wrap64 (a0_1 * (wrap64 (t405 - t389))))))))) + 1))) x8_3 (wrap64 (x13_5 + 1)) a0_0 a0_1 a0_2 a0_3 a0_4 t388 t389 t390 t391 (wrap64 (t388 + (Int.tmod x8_3 a0_1))) (wrap64 (t389 + (wrap64 (Int.tdiv x8_3 a0_1))))) else (none)) else (none))) = some r := by rw [if_pos rfl] at H; exact H
                                                          clear H
                                                          have H := H1
                                                          clear H1
                                                          by_cases c197 : x13_5 = 4
                                                          · rw [if_pos c197] at H
                                                            have c197b0 : (x13_5 == 4) = true := beq_iff_eq.mpr c197
                                                            have c197b1 : (x13_5 != 4) = false := bne_eq_false_iff_eq.mpr c197
                                                            clear c197
                                                            as_aux_lemma =>
                                                              have H' := Aside0.mk H
                                                              clear H
                                                              go_wp2
                                                              go_roundg kj153
                                                              case measure => have := HJ3.out; have := HJ18.out; have := HK3.out; have := HJ41.out; have := HK5.out; have := HJ69.out; have := HJ101.out; have := HJ153.out; omega
                                                              case rel => exact ⟨(x7_5), (wrap64 (x13_5 + 1)), (by (rfl)), H', ⟨by have := HJ3.out; have := HJ18.out; have := HK3.out; have := HJ41.out; have := HK5.out; have := HJ69.out; have := HJ101.out; have := HJ153.out; omega⟩, ⟨by (with_reducible skip); exact HO_7.out⟩, ⟨by (with_reducible skip); exact BK385.out⟩, ⟨by (with_reducible skip); exact BK393.out⟩, ⟨by (with_reducible skip); exact BK397.out⟩, ⟨by (with_reducible skip); exact BK402.out⟩, ⟨by repeat (with_reducible (exact HB.out))⟩⟩
                                                          · rw [if_neg c197] at H
                                                            have c197b0 : (x13_5 == 4) = false := beq_eq_false_iff_ne.mpr c197
                                                            have c197b1 : (x13_5 != 4) = true := bne_iff_ne.mpr c197
                                                            obtain ⟨ji198, hji198⟩ : ∃ j_ : Int, (wrap64 ((wrap64 ((wrap64 (a0_1 * a0_2)) * x8_3)) + (wrap64 ((wrap64 (t404 - t388)) + (wrap64 (a0_1 * (wrap64 (t405 - t389)))))))) = j_ := ⟨_, rfl⟩
                                                            replace H : (if 0 ≤ (ji198) then (if (ji198) < (x7_5.length : Int) then (vivariumlaw06_FoldBeside.l1 kj153 (wrap64 (a0_1 * a0_2)) (x7_5.set ((ji198) : Int).toNat (wrap64 ((rd x7_5 (ji198)) + 1))) x8_3 (wrap64 (x13_5 + 1)) a0_0 a0_1 a0_2 a0_3 a0_4 t388 t389 t390 t391 (wrap64 (t388 + (Int.tmod x8_3 a0_1))) (wrap64 (t389 + (wrap64 (Int.tdiv x8_3 a0_1))))) else (none)) else (none)) = some r := by (rw [hji198] at H; exact H)
                                                            have hji198w : (IntKind.i64.wrap ((wrap64 ((wrap64 (a0_1 * a0_2)) * x8_3)) + (wrap64 ((wrap64 (t404 - t388)) + (wrap64 (a0_1 * (wrap64 (t405 - t389)))))))) = ji198 := (i64_w _).trans hji198
                                                            by_cases c199 : 0 ≤ (ji198)
                                                            · rw [if_pos c199] at H
                                                              have c199b0 : decide (0 ≤ (ji198)) = true := decide_eq_true c199
                                                              clear c199
                                                              by_cases c200 : (ji198) < (x7_5.length : Int)
                                                              · rw [if_pos c200] at H
                                                                have c200b0 : decide ((ji198) < (x7_5.length : Int)) = true := decide_eq_true c200
                                                                clear c200
                                                                obtain ⟨y415, hy415⟩ : ∃ y_ : List Int, y_ = (x7_5.set ((ji198) : Int).toNat (wrap64 ((rd x7_5 (ji198)) + 1))) := ⟨_, rfl⟩
                                                                replace H : (vivariumlaw06_FoldBeside.l1 kj153 (wrap64 (a0_1 * a0_2)) y415 x8_3 (wrap64 (x13_5 + 1)) a0_0 a0_1 a0_2 a0_3 a0_4 t388 t389 t390 t391 (wrap64 (t388 + (Int.tmod x8_3 a0_1))) (wrap64 (t389 + (wrap64 (Int.tdiv x8_3 a0_1))))) = some r := by (rw [hy415]; with_reducible exact H)
                                                                have Ny415 := Aside0.mk hy415
                                                                clear hy415
                                                                as_aux_lemma =>
                                                                  have H' := Aside0.mk H
                                                                  clear H
                                                                  obtain ⟨Ao202, co202, eo202⟩ := Kd.R_slice HO_7.out
                                                                  subst eo202
                                                                  have p414 : 0 ≤ ((ji198) : Int) := of_decide_eq_true (by (with_reducible assumption))
                                                                  have q414 : (ji198) < (x7_5.length : Int) := of_decide_eq_true (by (with_reducible assumption))
                                                                  obtain ⟨ad414, e414, hx414_0⟩ := Kd.at_int (Kd.R_reads' HO_7.out).2.2 (ji198) p414 q414
                                                                  cases e414
                                                                  replace p414 := eq_true p414
                                                                  replace q414 := eq_true q414
                                                                  have p201 : 0 ≤ ((ji198) : Int) := of_decide_eq_true (by (with_reducible assumption))
                                                                  have q201 : ((ji198) : Int) < ((x7_5.length : Int) : Int) := of_decide_eq_true (by (with_reducible assumption))
                                                                  obtain ⟨go201, co201, eo201, gb201, gl201, cl201, HG201⟩ := Kd.R_form HO_7.out (by omega)
                                                                  (cases eo201)
                                                                  have GB201 := Aside0.mk gb201
                                                                  have GG201 := Aside0.mk HG201
                                                                  clear gb201 gl201 HG201
                                                                  (simp only [add_plain] at hx414_0)
                                                                  obtain ⟨hx201_0, hf201_0⟩ := Kd.R_celln 0 HO_7.out ((ji198) : Int) p201 q201
                                                                  replace p201 := eq_true p201
                                                                  replace q201 := eq_true q201
                                                                  have HP203 := Kd.R_putg HO_7.out ((ji198) : Int) (wrap64 ((rd x7_5 (ji198)) + 1))
                                                                  go_wp2_with ((((with_reducible refine gate_store (t := 3) (p := 228) rfl ?_); refine store_event (t := 3) (p := 228) (v := ?vo_w204) (w1 := (wc.setCell ⟨go201, ((ji198) : Int).toNat, none⟩ (.int .i64 (wrap64 ((rd x7_5 (ji198)) + 1))))) ?hg ?ho ?hn ?hr ?_; (case ho => rfl); (case hg => rfl); (case hn => rfl); (case hr => (go_simp; done)); intro w204 hw; have hg : wc.grownBy w204 (some go201) := (by rw [hw]; exact HP203.2); have hp_ : Kd.R (Kd.int .i64) 3 w204 w.heap.size (fun _ => True) (.slice (some ⟨go201, 0, none⟩) x7_5.length co202) y415 := (by rw [hw, Ny415.out]; exact HP203.1); clear HP203; replace BK385 := Aside0.mk (blk_grown BK385.out hg (Kd.R_ne HO_7.out BK385.out (by decide))); replace BK393 := Aside0.mk (blk_grown BK393.out hg (Kd.R_ne HO_7.out BK393.out (by decide))); replace BK397 := Aside0.mk (blk_grown BK397.out hg (Kd.R_ne HO_7.out BK397.out (by decide))); replace BK402 := Aside0.mk (blk_grown BK402.out hg (Kd.R_ne HO_7.out BK402.out (by decide))); replace BK403 := Aside0.mk (blk_grown BK403.out hg (Kd.R_ne HO_7.out BK403.out (by decide))); replace BK408 := Aside0.mk (blk_grown BK408.out hg (Kd.R_ne HO_7.out BK408.out (by decide))); replace BK412 := Aside0.mk (blk_grown BK412.out hg (Kd.R_ne HO_7.out BK412.out (by decide))); replace HO_7 := Aside0.mk hp_; replace HB := Aside0.mk (by rw [hw]; exact below_set (HB.out) GB201.out : Below w.heap.size w w204); clear hg hw hp_)))
                                                                  go_roundg kj153
                                                                  case measure => have := HJ3.out; have := HJ18.out; have := HK3.out; have := HJ41.out; have := HK5.out; have := HJ69.out; have := HJ101.out; have := HJ153.out; omega
                                                                  case rel => exact ⟨(y415), (wrap64 (x13_5 + 1)), (by (rfl)), H', ⟨by have := HJ3.out; have := HJ18.out; have := HK3.out; have := HJ41.out; have := HK5.out; have := HJ69.out; have := HJ101.out; have := HJ153.out; omega⟩, ⟨by (with_reducible skip); exact HO_7.out⟩, ⟨by (with_reducible skip); exact BK385.out⟩, ⟨by (with_reducible skip); exact BK393.out⟩, ⟨by (with_reducible skip); exact BK397.out⟩, ⟨by (with_reducible skip); exact BK402.out⟩, ⟨by repeat (with_reducible (exact HB.out))⟩⟩
                                                              · rw [if_neg c200] at H
                                                                exact absurd H (by simp)
                                                            · rw [if_neg c199] at H
                                                              exact absurd H (by simp)
                                                        · replace c196 := Bool.eq_false_iff.mpr c196
                                                          subst c196
                                                          have H1 : (vivariumlaw06_FoldBeside.l1 kj153 (wrap64 (a0_1 * a0_2)) x7_5 x8_3 (wrap64 (x13_5 + 1)) a0_0 a0_1 a0_2 a0_3 a0_4 t388 t389 t390 t391 (wrap64 (t388 + (Int.tmod x8_3 a0_1))) (wrap64 (t389 + (wrap64 (Int.tdiv x8_3 a0_1))))) = some r := by rw [if_neg (show ¬ (false = true) by decide)] at H; exact H
                                                          clear H
                                                          have H := H1
                                                          clear H1
                                                          as_aux_lemma =>
                                                            have H' := Aside0.mk H
                                                            clear H
                                                            go_wp2
                                                            go_roundg kj153
                                                            case measure => have := HJ3.out; have := HJ18.out; have := HK3.out; have := HJ41.out; have := HK5.out; have := HJ69.out; have := HJ101.out; have := HJ153.out; omega
                                                            case rel => exact ⟨(x7_5), (wrap64 (x13_5 + 1)), (by (rfl)), H', ⟨by have := HJ3.out; have := HJ18.out; have := HK3.out; have := HJ41.out; have := HK5.out; have := HJ69.out; have := HJ101.out; have := HJ153.out; omega⟩, ⟨by (with_reducible skip); exact HO_7.out⟩, ⟨by (with_reducible skip); exact BK385.out⟩, ⟨by (with_reducible skip); exact BK393.out⟩, ⟨by (with_reducible skip); exact BK397.out⟩, ⟨by (with_reducible skip); exact BK402.out⟩, ⟨by repeat (with_reducible (exact HB.out))⟩⟩
                                    · rw [if_neg c68] at H
                                      have c68b0 : decide (x13_5 < 9) = false := decide_eq_false c68
                                      clear c68
                                      as_aux_lemma =>
                                        have H' := Aside0.mk H
                                        clear H
                                        go_wp2
                                        go_roundg k5
                                        case measure => have := HJ3.out; have := HJ18.out; have := HK3.out; have := HJ41.out; have := HK5.out; omega
                                        case rel => exact ⟨(x7_5), (wrap64 (x8_3 + 1)), (by (rfl)), H', ⟨by have := HJ3.out; have := HJ18.out; have := HK3.out; have := HJ41.out; have := HK5.out; omega⟩, ⟨by (with_reducible skip); exact HO_7.out⟩, ⟨by (with_reducible skip); exact BK385.out⟩, ⟨by (with_reducible skip); exact BK393.out⟩, ⟨by repeat (with_reducible (exact HB.out))⟩⟩
                      · rw [if_neg c39] at H
                        have c39b0 : decide (x8_3 < (wrap64 (a0_1 * a0_2))) = false := decide_eq_false c39
                        clear c39
                        have H' := Aside0.mk H
                        clear H
                        go_wp2
                        go_loopg [21] k3 (fun kq v21 w' => ∃ (x21_4 : Int), v21 = .int .i64 x21_4 ∧ Aside0 (vivariumlaw06_FoldBeside.l2 kq (wrap64 (a0_1 * a0_2)) x7_3 x21_4 = some r) ∧ Aside0 (kq ≤ k3) ∧ Aside0 (Kd.R (Kd.int .i64) 3 w' w.heap.size (fun _ => True) v395 x7_3) ∧ Aside0 (w'.heap[gb385]? = some (.cells #[.int .u8 a0_0, .int .i64 a0_1, .int .i64 a0_2, .int .u8 a0_3, .int .i64 a0_4] 23 (0, 0))) ∧ Aside0 (w'.heap[gb393]? = some (.cells #[.int .i64 t388, .int .i64 t389, .int .i64 t390, .int .i64 t391] 28 (0, 0))) ∧ Aside0 (Below w.heap.size w w'))
                        case atStart => exact ⟨(0), (by (rfl)), H', ⟨Nat.le_refl _⟩, ⟨by (with_reducible skip); exact HO_7.out⟩, ⟨by (with_reducible skip); exact BK385.out⟩, ⟨by (with_reducible skip); exact BK393.out⟩, ⟨by repeat (with_reducible (exact HB.out))⟩⟩
                        case round =>
                          clear H'
                          try clear c39b0
                          obtain ⟨x21_4, rfl, HA, HK4, HO_7, BK385, BK393, HB⟩ := hrel
                          cases gk with
                          | zero => exact absurd HA.out (by simp [vivariumlaw06_FoldBeside.l2])
                          | succ k4 =>
                            have H := HA.out
                            clear HA
                            simp only [vivariumlaw06_FoldBeside.l2] at H
                            by_cases c205 : x21_4 < (wrap64 (a0_1 * a0_2))
                            · rw [if_pos c205] at H
                              have c205b0 : decide (x21_4 < (wrap64 (a0_1 * a0_2))) = true := decide_eq_true c205
                              clear c205
                              have H' := Aside0.mk H
                              clear H
                              go_wp2
                              go_loopg [22] k4 (fun kq v22 w' => ∃ (x22_5 : Int), v22 = .int .i64 x22_5 ∧ Aside0 (vivariumlaw06_FoldBeside.l3 kq (wrap64 (a0_1 * a0_2)) x7_3 x21_4 x22_5 = some r) ∧ Aside0 (kq ≤ k4) ∧ Aside0 (Kd.R (Kd.int .i64) 3 w' w.heap.size (fun _ => True) v395 x7_3) ∧ Aside0 (w'.heap[gb385]? = some (.cells #[.int .u8 a0_0, .int .i64 a0_1, .int .i64 a0_2, .int .u8 a0_3, .int .i64 a0_4] 23 (0, 0))) ∧ Aside0 (w'.heap[gb393]? = some (.cells #[.int .i64 t388, .int .i64 t389, .int .i64 t390, .int .i64 t391] 28 (0, 0))) ∧ Aside0 (Below w.heap.size w w'))
                              case atStart => exact ⟨(0), (by (rfl)), H', ⟨Nat.le_refl _⟩, ⟨by (with_reducible skip); exact HO_7.out⟩, ⟨by (with_reducible skip); exact BK385.out⟩, ⟨by (with_reducible skip); exact BK393.out⟩, ⟨by repeat (with_reducible (exact HB.out))⟩⟩
                              case round =>
                                clear H'
                                try clear c205b0
                                obtain ⟨x22_5, rfl, HA, HK5, HO_7, BK385, BK393, HB⟩ := hrel
                                cases gk with
                                | zero => exact absurd HA.out (by simp [vivariumlaw06_FoldBeside.l3])
                                | succ k5 =>
                                  have H := HA.out
                                  clear HA
                                  simp only [vivariumlaw06_FoldBeside.l3] at H
                                  by_cases c206 : x22_5 < (wrap64 (a0_1 * a0_2))
                                  · rw [if_pos c206] at H
                                    have c206b0 : decide (x22_5 < (wrap64 (a0_1 * a0_2))) = true := decide_eq_true c206
                                    clear c206
                                    obtain ⟨ji207, hji207⟩ : ∃ j_ : Int, (wrap64 ((wrap64 ((wrap64 (a0_1 * a0_2)) * x21_4)) + x22_5)) = j_ := ⟨_, rfl⟩
                                    replace H : (if 0 ≤ (ji207) then (if (ji207) < (x7_3.length : Int) then (if 0 ≤ (wrap64 ((wrap64 ((wrap64 (a0_1 * a0_2)) * x22_5)) + x21_4)) then (if (wrap64 ((wrap64 ((wrap64 (a0_1 * a0_2)) * x22_5)) + x21_4)) < (x7_3.length : Int) then (if (rd x7_3 (ji207)) = (rd x7_3 (wrap64 ((wrap64 ((wrap64 (a0_1 * a0_2)) * x22_5)) + x21_4))) then (vivariumlaw06_FoldBeside.l3 k5 (wrap64 (a0_1 * a0_2)) x7_3 x21_4 (wrap64 (x22_5 + 1))) else (none)) else (none)) else (none)) else (none)) else (none)) = some r := by (rw [hji207] at H; exact H)
                                    have hji207w : (IntKind.i64.wrap ((wrap64 ((wrap64 (a0_1 * a0_2)) * x21_4)) + x22_5)) = ji207 := (i64_w _).trans hji207
                                    by_cases c208 : 0 ≤ (ji207)
                                    · rw [if_pos c208] at H
                                      have c208b0 : decide (0 ≤ (ji207)) = true := decide_eq_true c208
                                      clear c208
                                      by_cases c209 : (ji207) < (x7_3.length : Int)
                                      · rw [if_pos c209] at H
                                        have c209b0 : decide ((ji207) < (x7_3.length : Int)) = true := decide_eq_true c209
                                        clear c209
                                        obtain ⟨ji210, hji210⟩ : ∃ j_ : Int, (wrap64 ((wrap64 ((wrap64 (a0_1 * a0_2)) * x22_5)) + x21_4)) = j_ := ⟨_, rfl⟩
                                        replace H : (if 0 ≤ (ji210) then (if (ji210) < (x7_3.length : Int) then (if (rd x7_3 (ji207)) = (rd x7_3 (ji210)) then (vivariumlaw06_FoldBeside.l3 k5 (wrap64 (a0_1 * a0_2)) x7_3 x21_4 (wrap64 (x22_5 + 1))) else (none)) else (none)) else (none)) = some r := by (rw [hji210] at H; exact H)
                                        have hji210w : (IntKind.i64.wrap ((wrap64 ((wrap64 (a0_1 * a0_2)) * x22_5)) + x21_4)) = ji210 := (i64_w _).trans hji210
                                        by_cases c211 : 0 ≤ (ji210)
                                        · rw [if_pos c211] at H
                                          have c211b0 : decide (0 ≤ (ji210)) = true := decide_eq_true c211
                                          clear c211
                                          by_cases c212 : (ji210) < (x7_3.length : Int)
                                          · rw [if_pos c212] at H
                                            have c212b0 : decide ((ji210) < (x7_3.length : Int)) = true := decide_eq_true c212
                                            clear c212
                                            by_cases c213 : (rd x7_3 (ji207)) = (rd x7_3 (ji210))
                                            · rw [if_pos c213] at H
                                              have c213b0 : ((rd x7_3 (ji207)) == (rd x7_3 (ji210))) = true := beq_iff_eq.mpr c213
                                              have c213b1 : ((rd x7_3 (ji207)) != (rd x7_3 (ji210))) = false := bne_eq_false_iff_eq.mpr c213
                                              clear c213
                                              as_aux_lemma =>
                                                have H' := Aside0.mk H
                                                clear H
                                                try go_wp2
                                                replace HO_7 := Aside0.mk (Kd.R_drew HO_7.out)
                                                replace BK385 := Aside0.mk (blk_drew BK385.out)
                                                replace BK393 := Aside0.mk (blk_drew BK393.out)
                                                replace HB := Aside0.mk (below_drew1 HB.out)
                                                obtain ⟨Ao215, co215, eo215⟩ := Kd.R_slice HO_7.out
                                                (subst eo215)
                                                have p416 : 0 ≤ ((ji207) : Int) := of_decide_eq_true (by (with_reducible assumption))
                                                have q416 : (ji207) < (x7_3.length : Int) := of_decide_eq_true (by (with_reducible assumption))
                                                obtain ⟨ad416, e416, hx416_0⟩ := Kd.at_int (Kd.R_reads' HO_7.out).2.2 (ji207) p416 q416
                                                cases e416
                                                replace p416 := eq_true p416
                                                replace q416 := eq_true q416
                                                have p417 : 0 ≤ ((ji210) : Int) := of_decide_eq_true (by (with_reducible assumption))
                                                have q417 : (ji210) < (x7_3.length : Int) := of_decide_eq_true (by (with_reducible assumption))
                                                obtain ⟨ad417, e417, hx417_0⟩ := Kd.at_int (Kd.R_reads' HO_7.out).2.2 (ji210) p417 q417
                                                obtain rfl : ad416 = ad417 := (by injection e417)
                                                replace p417 := eq_true p417
                                                replace q417 := eq_true q417
                                                refine start_ (n := 17) (S := fun w' => w'.cell? (ad416.add (ji207).toNat) = some (.int .i64 (rd x7_3 (ji207))) ∧ w'.cell? (ad416.add (ji210).toNat) = some (.int .i64 (rd x7_3 (ji210)))) (ds := []) #[false, false, false, false, false, false, false, false, false, false, false, false, false, false, false, false, false] (by kernel_rfl) rfl rfl ⟨hx416_0, hx417_0⟩ (fun hHeld => ?_); refine with_tabW vivariumlaw06_FoldBeside.tab38 vivariumlaw06_FoldBeside.bits38 (fun HT_ HW_ => ?_)
                                                generalize wr.drew = w214 at HO_7 BK385 BK393 HB hx416_0 hx417_0 hHeld ⊢
                                                refine pure_ (i := 0) (N := some 239) (v := ?_) (a' := ?_) #[true, false, false, false, false, false, false, false, false, false, false, false, false, false, false, false, false] rfl rfl (any_of HT_.out (by kernel_rfl)) (fun _ _ _ h => h) (Or.inl ⟨by rfl, ?_⟩) ?_ ?_
                                                rotate_left
                                                · intro w'
                                                  go_simp
                                                  with_reducible rfl
                                                rotate_left
                                                · simp only [Act.put, List.setIfInBounds_toArray, List.set_cons_zero, List.set_cons_succ, i64_w, i32_w]
                                                  rfl
                                                refine pure_ (i := 1) (N := some 240) (v := ?_) (a' := ?_) #[true, true, false, false, false, false, false, false, false, false, false, false, false, false, false, false, false] rfl rfl (any_of HT_.out (by kernel_rfl)) (fun _ _ _ h => h) (Or.inl ⟨by rfl, ?_⟩) ?_ ?_
                                                rotate_left
                                                · intro w'
                                                  go_simp
                                                  with_reducible rfl
                                                rotate_left
                                                · simp only [Act.put, List.setIfInBounds_toArray, List.set_cons_zero, List.set_cons_succ, i64_w, i32_w]
                                                  rfl
                                                refine pure_ (i := 2) (N := some 241) (v := ?_) (a' := ?_) #[true, true, true, false, false, false, false, false, false, false, false, false, false, false, false, false, false] rfl rfl (any_of HT_.out (by kernel_rfl)) (fun _ _ _ h => h) (Or.inl ⟨by rfl, ?_⟩) ?_ ?_
                                                rotate_left
                                                · intro w'
                                                  go_simp
                                                  with_reducible rfl
                                                rotate_left
                                                · simp only [Act.put, List.setIfInBounds_toArray, List.set_cons_zero, List.set_cons_succ, i64_w, i32_w]
                                                  rfl
                                                refine pure_ (i := 3) (N := some 242) (v := ?_) (a' := ?_) #[true, true, true, true, false, false, false, false, false, false, false, false, false, false, false, false, false] rfl rfl (any_of HT_.out (by kernel_rfl)) (fun _ _ _ h => h) (Or.inl ⟨by rfl, ?_⟩) ?_ ?_
                                                rotate_left
                                                · intro w'
                                                  go_simp
                                                  with_reducible rfl
                                                rotate_left
                                                · simp only [Act.put, List.setIfInBounds_toArray, List.set_cons_zero, List.set_cons_succ, i64_w, i32_w]
                                                  rfl
                                                refine pure_ (i := 4) (N := some 243) (v := ?_) (a' := ?_) #[true, true, true, true, true, false, false, false, false, false, false, false, false, false, false, false, false] rfl rfl (any_of HT_.out (by kernel_rfl)) (fun _ _ _ h => h) (Or.inl ⟨by rfl, ?_⟩) ?_ ?_
                                                rotate_left
                                                · intro w'
                                                  go_simp
                                                  with_reducible rfl
                                                rotate_left
                                                · simp only [Act.put, List.setIfInBounds_toArray, List.set_cons_zero, List.set_cons_succ, i64_w, i32_w]
                                                  rfl
                                                refine pure_ (i := 5) (N := some 244) (v := ?_) (a' := ?_) #[true, true, true, true, true, true, false, false, false, false, false, false, false, false, false, false, false] rfl rfl (any_of HT_.out (by kernel_rfl)) (fun _ _ _ h => h) (Or.inl ⟨by rfl, ?_⟩) ?_ ?_
                                                rotate_left
                                                · intro w'
                                                  go_simp
                                                  with_reducible rfl
                                                rotate_left
                                                · simp only [Act.put, List.setIfInBounds_toArray, List.set_cons_zero, List.set_cons_succ, i64_w, i32_w]
                                                  rfl
                                                refine pure_ (i := 6) (N := some 245) (v := ?_) (a' := ?_) #[true, true, true, true, true, true, true, false, false, false, false, false, false, false, false, false, false] rfl rfl (any_of HT_.out (by kernel_rfl)) (fun _ _ _ h => h) (Or.inl ⟨by rfl, ?_⟩) ?_ ?_
                                                rotate_left
                                                · intro w'
                                                  go_simp
                                                  with_reducible rfl
                                                rotate_left
                                                · simp only [Act.put, List.setIfInBounds_toArray, List.set_cons_zero, List.set_cons_succ, i64_w, i32_w]
                                                  rfl
                                                refine pure_ (i := 8) (N := some 247) (v := ?_) (a' := ?_) #[true, true, true, true, true, true, true, false, true, false, false, false, false, false, false, false, false] rfl rfl (any_of HT_.out (by kernel_rfl)) (fun _ _ _ h => h) (Or.inl ⟨by rfl, ?_⟩) ?_ ?_
                                                rotate_left
                                                · intro w'
                                                  go_simp
                                                  with_reducible rfl
                                                rotate_left
                                                · simp only [Act.put, List.setIfInBounds_toArray, List.set_cons_zero, List.set_cons_succ, i64_w, i32_w]
                                                  rfl
                                                refine pure_ (i := 9) (N := some 248) (v := ?_) (a' := ?_) #[true, true, true, true, true, true, true, false, true, true, false, false, false, false, false, false, false] rfl rfl (any_of HT_.out (by kernel_rfl)) (fun _ _ _ h => h) (Or.inl ⟨by rfl, ?_⟩) ?_ ?_
                                                rotate_left
                                                · intro w'
                                                  go_simp
                                                  with_reducible rfl
                                                rotate_left
                                                · simp only [Act.put, List.setIfInBounds_toArray, List.set_cons_zero, List.set_cons_succ, i64_w, i32_w]
                                                  rfl
                                                refine pure_ (i := 10) (N := some 249) (v := ?_) (a' := ?_) #[true, true, true, true, true, true, true, false, true, true, true, false, false, false, false, false, false] rfl rfl (any_of HT_.out (by kernel_rfl)) (fun _ _ _ h => h) (Or.inl ⟨by rfl, ?_⟩) ?_ ?_
                                                rotate_left
                                                · intro w'
                                                  go_simp
                                                  with_reducible rfl
                                                rotate_left
                                                · simp only [Act.put, List.setIfInBounds_toArray, List.set_cons_zero, List.set_cons_succ, i64_w, i32_w]
                                                  rfl
                                                refine pure_ (i := 11) (N := some 250) (v := ?_) (a' := ?_) #[true, true, true, true, true, true, true, false, true, true, true, true, false, false, false, false, false] rfl rfl (any_of HT_.out (by kernel_rfl)) (fun _ _ _ h => h) (Or.inl ⟨by rfl, ?_⟩) ?_ ?_
                                                rotate_left
                                                · intro w'
                                                  go_simp
                                                  with_reducible rfl
                                                rotate_left
                                                · simp only [Act.put, List.setIfInBounds_toArray, List.set_cons_zero, List.set_cons_succ, i64_w, i32_w]
                                                  rfl
                                                refine pure_ (i := 12) (N := some 251) (v := ?_) (a' := ?_) #[true, true, true, true, true, true, true, false, true, true, true, true, true, false, false, false, false] rfl rfl (any_of HT_.out (by kernel_rfl)) (fun _ _ _ h => h) (Or.inl ⟨by rfl, ?_⟩) ?_ ?_
                                                rotate_left
                                                · intro w'
                                                  go_simp
                                                  with_reducible rfl
                                                rotate_left
                                                · simp only [Act.put, List.setIfInBounds_toArray, List.set_cons_zero, List.set_cons_succ, i64_w, i32_w]
                                                  rfl
                                                refine pure_ (i := 13) (N := some 252) (v := ?_) (a' := ?_) #[true, true, true, true, true, true, true, false, true, true, true, true, true, true, false, false, false] rfl rfl (any_of HT_.out (by kernel_rfl)) (fun _ _ _ h => h) (Or.inl ⟨by rfl, ?_⟩) ?_ ?_
                                                rotate_left
                                                · intro w'
                                                  go_simp
                                                  with_reducible rfl
                                                rotate_left
                                                · simp only [Act.put, List.setIfInBounds_toArray, List.set_cons_zero, List.set_cons_succ, i64_w, i32_w]
                                                  rfl
                                                refine pure_ (i := 14) (N := some 253) (v := ?_) (a' := ?_) #[true, true, true, true, true, true, true, false, true, true, true, true, true, true, true, false, false] rfl rfl (any_of HT_.out (by kernel_rfl)) (fun _ _ _ h => h) (Or.inl ⟨by rfl, ?_⟩) ?_ ?_
                                                rotate_left
                                                · intro w'
                                                  go_simp
                                                  with_reducible rfl
                                                rotate_left
                                                · simp only [Act.put, List.setIfInBounds_toArray, List.set_cons_zero, List.set_cons_succ, i64_w, i32_w]
                                                  rfl
                                                refine take_ (i := 7) (N := some 246) (v := ?_) (a' := ?_) #[true, true, true, true, true, true, true, true, true, true, true, true, true, true, true, false, false] rfl rfl (take_ofW HT_.out HW_.out (by kernel_rfl)) (fun _ _ _ h => h) (Or.inl ⟨by rfl, ?_⟩) hHeld ?_ ?_
                                                rotate_left
                                                · rintro w' ⟨s0, s1⟩
                                                  go_simp
                                                  with_reducible rfl
                                                rotate_left
                                                · simp only [Act.put, List.setIfInBounds_toArray, List.set_cons_zero, List.set_cons_succ, i64_w, i32_w]
                                                  rfl
                                                refine take_ (i := 15) (N := some 254) (v := ?_) (a' := ?_) #[true, true, true, true, true, true, true, true, true, true, true, true, true, true, true, true, false] rfl rfl (take_ofW HT_.out HW_.out (by kernel_rfl)) (fun _ _ _ h => h) (Or.inl ⟨by rfl, ?_⟩) hHeld ?_ ?_
                                                rotate_left
                                                · rintro w' ⟨s0, s1⟩
                                                  go_simp
                                                  with_reducible rfl
                                                rotate_left
                                                · simp only [Act.put, List.setIfInBounds_toArray, List.set_cons_zero, List.set_cons_succ, i64_w, i32_w]
                                                  rfl
                                                refine pure_ (i := 16) (N := some 255) (v := ?_) (a' := ?_) #[true, true, true, true, true, true, true, true, true, true, true, true, true, true, true, true, true] rfl rfl (any_of HT_.out (by kernel_rfl)) (fun _ _ _ h => h) (Or.inl ⟨by rfl, ?_⟩) ?_ ?_
                                                rotate_left
                                                · intro w'
                                                  go_simp
                                                  with_reducible rfl
                                                rotate_left
                                                · simp only [Act.put, List.setIfInBounds_toArray, List.set_cons_zero, List.set_cons_succ, i64_w, i32_w]
                                                  rfl
                                                refine done_ (done_of HT_.out (by kernel_rfl)) ?_
                                                try go_wp2
                                                go_roundg k5
                                                case measure => have := HJ3.out; have := HJ18.out; have := HK3.out; have := HK4.out; have := HK5.out; omega
                                                case rel => exact ⟨(wrap64 (x22_5 + 1)), (by (rfl)), H', ⟨by have := HJ3.out; have := HJ18.out; have := HK3.out; have := HK4.out; have := HK5.out; omega⟩, ⟨by (with_reducible skip); exact HO_7.out⟩, ⟨by (with_reducible skip); exact BK385.out⟩, ⟨by (with_reducible skip); exact BK393.out⟩, ⟨by repeat (with_reducible (exact HB.out))⟩⟩
                                            · rw [if_neg c213] at H
                                              exact absurd H (by simp)
                                          · rw [if_neg c212] at H
                                            exact absurd H (by simp)
                                        · rw [if_neg c211] at H
                                          exact absurd H (by simp)
                                      · rw [if_neg c209] at H
                                        exact absurd H (by simp)
                                    · rw [if_neg c208] at H
                                      exact absurd H (by simp)
                                  · rw [if_neg c206] at H
                                    have c206b0 : decide (x22_5 < (wrap64 (a0_1 * a0_2))) = false := decide_eq_false c206
                                    clear c206
                                    as_aux_lemma =>
                                      have H' := Aside0.mk H
                                      clear H
                                      go_wp2
                                      go_roundg k5
                                      case measure => have := HJ3.out; have := HJ18.out; have := HK3.out; have := HK4.out; have := HK5.out; omega
                                      case rel => exact ⟨(wrap64 (x21_4 + 1)), (by (rfl)), H', ⟨by have := HJ3.out; have := HJ18.out; have := HK3.out; have := HK4.out; have := HK5.out; omega⟩, ⟨by (with_reducible skip); exact HO_7.out⟩, ⟨by (with_reducible skip); exact BK385.out⟩, ⟨by (with_reducible skip); exact BK393.out⟩, ⟨by repeat (with_reducible (exact HB.out))⟩⟩
                            · rw [if_neg c205] at H
                              have c205b0 : decide (x21_4 < (wrap64 (a0_1 * a0_2))) = false := decide_eq_false c205
                              clear c205
                              as_aux_lemma =>
                                obtain rfl := Option.some.inj H
                                go_wp2
                                go_ret
                                exact ⟨by (rfl), by repeat (with_reducible (exact HB.out))⟩
                · rw [if_neg c34] at H
                  exact absurd H (by simp)
              · rw [if_neg c33] at H
                exact absurd H (by simp)
end Go.Proofs.Ytfgoplgdhnjkdaa.Be
