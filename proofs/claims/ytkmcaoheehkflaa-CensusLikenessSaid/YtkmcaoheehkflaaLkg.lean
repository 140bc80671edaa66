/- math.Sqrt comes to the model's square root. -/
import Derived.Test.YtkmcaoheehkflaaLk0
import Derived.Laws.Externs
namespace Go.Proofs.Ytkmcaoheehkflaa.Lk
open Go.RowKit Go.Proofs.YtkmcaoheehkflaaW.PrintWords Go.Proofs.YtkmcaoheehkflaaW.XWords
def math_Sqrt.f (a0 : Nat) : Option Nat := FloatKind.f64.format.sqrt a0
theorem sqrt_found : Extern.find Try.f24 = some Extern.MathSqrt.sqrt := by kernel_rfl
theorem sqrt_comes (P : Program) (a r : Nat) (w : World) (h : FloatKind.f64.format.sqrt a = some r) : (Extern.MathSqrt.sqrt #[.float .f64 a]).run P w = .ok (.float .f64 r) w := by
  show (match FloatKind.f64.format.sqrt a with | some r => (pure (.float .f64 r) : Sem Value) | none => do pure (.float .f64 (← choose (.nanBits .f64 a a)))).run P w = _
  rw [h]
  rfl
theorem sqrt_runs (a0 r : Nat) (w : World) (h : FloatKind.f64.format.sqrt a0 = some r) : (callFunc 24 #[.float .f64 a0]).run Try.prog w = .ok (.value (.float .f64 r)) w := by
  rw [run_callFunc_extern Try.func24 (by kernel_rfl) (by kernel_rfl) (by kernel_rfl) sqrt_found, sqrt_comes _ _ _ _ h]
  rfl
theorem math_Sqrt.calls (a0 : Nat) (r : Nat) (w : World) (h : math_Sqrt.f a0 = some r) :
    Calls Try.prog 17 #[.float .f64 a0] w fun e w' => e = .returned (.float .f64 r) ∧ Drawn0 w w' := by
  have hr := fun w => sqrt_runs a0 r w h
  clear h
  go_enter Try.func17, Try.ntmps17
  go_wp2
  go_ret
  exact ⟨rfl, Drawn0.refl _⟩
end Go.Proofs.Ytkmcaoheehkflaa.Lk
