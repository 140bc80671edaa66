/- fold.way tells which function is meant; a call of what it told comes to that function. -/
import Derived.Test.YtfgoplgdhnjkdaaBe2
import Derived.Test.YtfgoplgdhnjkdaaBe3
import Derived.WalkKit
import Derived.Laws.EntriesVeiled
namespace Go.Proofs.Ytfgoplgdhnjkdaa.Be
open Go.RowKit Go.Proofs.YtfgoplgdhnjkdaaW.PrintWords Go.Proofs.YtfgoplgdhnjkdaaW.PrintLast Go.Proofs.YtfgoplgdhnjkdaaW.XWords
set_option linter.unusedVariables false
def fold_way.f (a0 : Int) : Option Nat := if a0 = 1 then some 34 else if a0 = 2 then some 35 else if a0 = 3 then some 36 else if a0 = 4 then some 37 else if a0 = 5 then some 38 else none
theorem fold_way.cases {a0 : Int} {r : Nat} (h : fold_way.f a0 = some r) : (a0 = 1 ∧ r = 34) ∨ (a0 = 2 ∧ r = 35) ∨ (a0 = 3 ∧ r = 36) ∨ (a0 = 4 ∧ r = 37) ∨ (a0 = 5 ∧ r = 38) := by
  unfold fold_way.f at h
  repeat' split at h
  all_goals first | (cases h; done) | (have := Option.some.inj h; omega)
set_option maxHeartbeats 8000000 in
set_option maxRecDepth 100000 in
theorem fold_way.calls (a0 : Int) (r : Nat) (w : World) (h : fold_way.f a0 = some r) : Calls Try.prog 20 #[.int .u8 a0] w fun e w' => e = .returned (.func (.func r) #[] #[]) ∧ Below w.heap.size w w' := by
  have HB := Aside0.mk (Below.refl w.heap.size w)
  rcases fold_way.cases h with ⟨rfl, rfl⟩ | ⟨rfl, rfl⟩ | ⟨rfl, rfl⟩ | ⟨rfl, rfl⟩ | ⟨rfl, rfl⟩
  all_goals
    clear h
    go_enter Try.func20, Try.ntmps20
    go_wp2
    go_ret
    exact ⟨rfl, by repeat (first | (with_reducible first | exact HB.out | apply below_alloc | apply pw_below_drewN | apply below_drew1) | exact HB.out)⟩
def fold_dyn.f (k x : Nat) (a0_0 : Int) (a0_1 : Int) (a0_2 : Int) (a0_3 : Int) (a0_4 : Int) (a0_5 : Int) (a0_6 : Int) (a1 : Int) (a2 : Int) : Option (Int × Int × Bool) := if x = 34 then fold_grid_flat.f a0_0 a0_1 a0_2 a0_3 a0_4 a0_5 a0_6 a1 a2 else if x = 35 then fold_grid_torus.f a0_0 a0_1 a0_2 a0_3 a0_4 a0_5 a0_6 a1 a2 else if x = 36 then fold_grid_klein.f k a0_0 a0_1 a0_2 a0_3 a0_4 a0_5 a0_6 a1 a2 else if x = 37 then fold_grid_cross.f a0_0 a0_1 a0_2 a0_3 a0_4 a0_5 a0_6 a1 a2 else if x = 38 then fold_grid_sphere.f k a0_0 a0_1 a0_2 a0_3 a0_4 a0_5 a0_6 a1 a2 else none
theorem fold_dyn.mono : ∀ x a0_0 a0_1 a0_2 a0_3 a0_4 a0_5 a0_6 a1 a2 k, LeO (fold_dyn.f k x a0_0 a0_1 a0_2 a0_3 a0_4 a0_5 a0_6 a1 a2) (fold_dyn.f (k + 1) x a0_0 a0_1 a0_2 a0_3 a0_4 a0_5 a0_6 a1 a2) := by
  intro x a0_0 a0_1 a0_2 a0_3 a0_4 a0_5 a0_6 a1 a2 k
  unfold fold_dyn.f
  repeat' first
      | (with_reducible exact fold_grid_klein.mono _ _ _ _ _ _ _ _ _ k)
      | (with_reducible exact fold_grid_sphere.mono _ _ _ _ _ _ _ _ _ k)
      | (with_reducible exact LeO.refl _)
      | (with_reducible exact LeO.none _)
      | (with_reducible refine LeO.ite ?_ ?_)
theorem fold_dyn.cases {k x : Nat} {a0_0 a0_1 a0_2 a0_3 a0_4 a0_5 a0_6 a1 a2 : Int} {r : Int × Int × Bool} (h : fold_dyn.f k x a0_0 a0_1 a0_2 a0_3 a0_4 a0_5 a0_6 a1 a2 = some r) : (x = 34 ∧ fold_grid_flat.f a0_0 a0_1 a0_2 a0_3 a0_4 a0_5 a0_6 a1 a2 = some r) ∨ (x = 35 ∧ fold_grid_torus.f a0_0 a0_1 a0_2 a0_3 a0_4 a0_5 a0_6 a1 a2 = some r) ∨ (x = 36 ∧ fold_grid_klein.f k a0_0 a0_1 a0_2 a0_3 a0_4 a0_5 a0_6 a1 a2 = some r) ∨ (x = 37 ∧ fold_grid_cross.f a0_0 a0_1 a0_2 a0_3 a0_4 a0_5 a0_6 a1 a2 = some r) ∨ (x = 38 ∧ fold_grid_sphere.f k a0_0 a0_1 a0_2 a0_3 a0_4 a0_5 a0_6 a1 a2 = some r) := by
  unfold fold_dyn.f at h
  by_cases h0 : x = 34
  · rw [if_pos h0] at h; exact (.inl ⟨h0, h⟩)
  rw [if_neg h0] at h
  by_cases h1 : x = 35
  · rw [if_pos h1] at h; exact (.inr (.inl ⟨h1, h⟩))
  rw [if_neg h1] at h
  by_cases h2 : x = 36
  · rw [if_pos h2] at h; exact (.inr (.inr (.inl ⟨h2, h⟩)))
  rw [if_neg h2] at h
  by_cases h3 : x = 37
  · rw [if_pos h3] at h; exact (.inr (.inr (.inr (.inl ⟨h3, h⟩))))
  rw [if_neg h3] at h
  by_cases h4 : x = 38
  · rw [if_pos h4] at h; exact (.inr (.inr (.inr (.inr ⟨h4, h⟩))))
  rw [if_neg h4] at h
  cases h
theorem fold_dyn.found {k x : Nat} {a0_0 a0_1 a0_2 a0_3 a0_4 a0_5 a0_6 a1 a2 : Int} {r : Int × Int × Bool} (h : fold_dyn.f k x a0_0 a0_1 a0_2 a0_3 a0_4 a0_5 a0_6 a1 a2 = some r) : ∃ fn, Try.prog.funcs[x]? = some fn ∧ (fn.name == "runtime.NumGoroutine") = false ∧ fn.body.isSome = true := by
  rcases fold_dyn.cases h with ⟨rfl, _⟩ | ⟨rfl, _⟩ | ⟨rfl, _⟩ | ⟨rfl, _⟩ | ⟨rfl, _⟩
  · exact ⟨_, Try.func34, by kernel_rfl, rfl⟩
  · exact ⟨_, Try.func35, by kernel_rfl, rfl⟩
  · exact ⟨_, Try.func36, by kernel_rfl, rfl⟩
  · exact ⟨_, Try.func37, by kernel_rfl, rfl⟩
  · exact ⟨_, Try.func38, by kernel_rfl, rfl⟩
theorem fold_dyn.calls (k x : Nat) (a0_0 : Int) (a0_1 : Int) (a0_2 : Int) (a0_3 : Int) (a0_4 : Int) (a0_5 : Int) (a0_6 : Int) (a1 : Int) (a2 : Int) (r1 : Int) (r2 : Int) (r3 : Bool) (w : World) (h : fold_dyn.f k x a0_0 a0_1 a0_2 a0_3 a0_4 a0_5 a0_6 a1 a2 = some (r1, r2, r3)) : Calls Try.prog x #[.agg #[.int .u8 a0_0, .int .i64 a0_1, .int .i64 a0_2, .int .u8 a0_3, .int .i64 a0_4, .int .i64 a0_5, .int .i64 a0_6], .int .i64 a1, .int .i64 a2] w fun e w' => e = .returned (.tuple #[.int .i64 r1, .int .i64 r2, .bool r3]) ∧ Below w.heap.size w w' := by
  rcases fold_dyn.cases h with ⟨rfl, h⟩ | ⟨rfl, h⟩ | ⟨rfl, h⟩ | ⟨rfl, h⟩ | ⟨rfl, h⟩
  · exact fold_grid_flat.calls a0_0 a0_1 a0_2 a0_3 a0_4 a0_5 a0_6 a1 a2 r1 r2 r3 w h
  · exact fold_grid_torus.calls a0_0 a0_1 a0_2 a0_3 a0_4 a0_5 a0_6 a1 a2 r1 r2 r3 w h
  · exact fold_grid_klein.calls k a0_0 a0_1 a0_2 a0_3 a0_4 a0_5 a0_6 a1 a2 r1 r2 r3 w h
  · exact fold_grid_cross.calls a0_0 a0_1 a0_2 a0_3 a0_4 a0_5 a0_6 a1 a2 r1 r2 r3 w h
  · exact fold_grid_sphere.calls k a0_0 a0_1 a0_2 a0_3 a0_4 a0_5 a0_6 a1 a2 r1 r2 r3 w h
end Go.Proofs.Ytfgoplgdhnjkdaa.Be
