/- For all two shapes, ShapeAlike answers true, and both shapes read as they did: its walk, joined with the plain law. -/
import Derived.Test.YtocijdlbpablkaaRows
import Derived.Test.YtocijdlbpablkaaYa
import Derived.Test.YtocijdlbpablkaaXOpen
import Derived.WalkKit
import Derived.ProofKit
import Derived.OpenShut
import Derived.ShutString
import Derived.ChangeOld
import Derived.ChangeSame
import Derived.Below
import Derived.SizedLaws
namespace Go.Proofs.Ytocijdlbpablkaa.shapeAlike
open Go.ChangeShapes Go.WideShapes Go.ChangeAt Go.RowKit Go.Proofs.YtocijdlbpablkaaW.PrintWords Go.Proofs.YtocijdlbpablkaaW.XWords Go.Proofs.YtocijdlbpablkaaW.XOpen
set_option linter.unusedVariables false
theorem own : ownKnob Try.prog.godebug = none := by kernel_rfl
theorem laidOut : laidOutB Try.prog = true := by kernel_rfl
section
variable {H : Type} {enc : TypeId × Value → H} {w : World} {base : Nat} {spare : Nat → Bool} {held : Bool}
theorem one_int {t : TypeId} {k : IntKind} (ht : Try.prog.underlying t = some (.int k)) {n : Nat} {v : Value} {x : DataW H × List MemPlace} (h : DataW.trod enc Try.prog w base spare held n t [v] = some x) : ∃ m, v = .int k m ∧ (Lit.int k m).wf = true := by
  obtain ⟨m, h1, _, hw⟩ := DataW.trod_int ht h
  exact ⟨m, by simpa using h1, hw⟩
set_option maxRecDepth 100000 in
/-- A cell, opened. -/
theorem opens_61 : Opens H enc Try.prog w base spare held 61 Sb.k61 (fun _ => True) := by
  intro n cs x h
  obtain ⟨xs, n', _, _, hl, hlen, hx⟩ := DataW.trod_struct Try.underlying61 h
  have h3 : cs.length = 3 := hl.trans (by kernel_rfl)
  match cs, h3 with
  | [c0, c1, c2], _ =>
    match xs, hlen with
    | [y0, y1, y2], _ =>
      have z0 : DataW.trod enc Try.prog w base spare held n' 3 [c0] = some y0 := by simpa [Value.cells, show Try.prog.cellsOf 3 = 1 by kernel_rfl] using hx 0 _ rfl
      have z1 : DataW.trod enc Try.prog w base spare held n' 3 [c1] = some y1 := by simpa [Value.cells, show Try.prog.cellsOf 3 = 1 by kernel_rfl] using hx 1 _ rfl
      have z2 : DataW.trod enc Try.prog w base spare held n' 5 [c2] = some y2 := by simpa [Value.cells, show Try.prog.cellsOf 5 = 1 by kernel_rfl] using hx 2 _ rfl
      obtain ⟨a, rfl, _⟩ := one_int Try.underlying3 z0
      obtain ⟨b, rfl, _⟩ := one_int Try.underlying3 z1
      obtain ⟨c, rfl, _⟩ := one_int Try.underlying5 z2
      exact ⟨⟨a, b, c⟩, Sb.k61_mk w ⟨a, b, c⟩, trivial⟩
set_option maxRecDepth 100000 in
/-- A shape, opened. -/
theorem open_shape {r : Reach} {b0 : Nat} {v : Value} {d : DataW H} {ps : List MemPlace} (hv : Value.okWide Try.prog w r b0 24 v) (h : DataW.Trod enc Try.prog w base spare held 24 v d ps) :
    ∃ A c, ∃ l : List Sb.S61, v = .agg #[.slice A l.length c] ∧ Kd.C Sb.k61 w A l.length l ∧ l.length ≤ c := by
  obtain ⟨cs, rfl, hs⟩ := okWide_struct Try.underlying24 hv
  obtain ⟨fuel, hf⟩ := h
  obtain ⟨xs, n, _, _, hl, hlen, hx⟩ := DataW.trod_struct Try.underlying24 hf
  have h1 : cs.size = 1 := hs.trans (by kernel_rfl)
  obtain ⟨l⟩ := cs
  match l, h1 with
  | [c0], _ =>
    match xs, hlen with
    | [y0], _ =>
      have z0 : DataW.trod enc Try.prog w base spare held n 22 [c0] = some y0 := by simpa [Value.cells, show Try.prog.cellsOf 22 = 1 by kernel_rfl] using hx 0 _ rfl
      obtain ⟨l, ⟨A, c, hv', hl', hC⟩, _, _⟩ := opens_slice (d := Sb.k61) Try.underlying22 (by kernel_rfl) opens_61 _ _ _ z0
      obtain rfl : c0 = .slice A l.length c := by simpa using hv'
      exact ⟨A, c, l, rfl, hC, hl'⟩
end
set_option maxRecDepth 100000 in
theorem lifted (os : Os) (started : os.Started) (H : Type) (enc : TypeId × Value → H) :
    ReturnsInHanded {} Try.checked os 4 .any (Rows.shapeAlikeSpec.pre6 enc Try.prog Try.f4 Rows.shapeAlikeRow.domain false) (Rows.shapeAlikeSpec.post enc Try.prog Try.f4 false true false false) := by
  refine returnsInHanded_of_change_sized (C := Try.checked) own started (by kernel_rfl) Try.func4
    (ChangeSpec.witness6 (enc := enc) (C := Try.checked) false ⟨#[], #[.agg #[.slice none 0 0], .agg #[.slice none 0 0]], []⟩ 8 (by kernel_rfl) (by kernel_rfl) (by kernel_rfl) (by kernel_rfl)) ?_
  intro W base args ds gs before hval0 hW hcnd hsz0 _
  have hval : ∀ (j : Nat) t v, Try.f4.params[j]? = some t → args[j]? = some v → Value.okWide Try.prog W .any base t v := hval0
  have hW' := hW
  obtain ⟨p, q, hA0, hV, rfl, hfz, hnd⟩ := hW
  have hA : DataW.TrodAll enc Try.prog W 0 (fun _ => true) true Try.f4.params.toList args.toList ds p := hA0
  rw [Try.params4] at hA hval
  obtain ⟨v0, vs0, d0, ds0, p0, q0, hargs, rfl, rfl, h0, r0⟩ := trodAll_cons hA
  obtain ⟨v1, vs1, d1, ds1, p1, q1, rfl, rfl, rfl, h1, r1⟩ := trodAll_cons r0
  obtain ⟨rfl, rfl, rfl⟩ := trodAll_nil r1
  obtain rfl : args = #[v0, v1] := by cases args; simp_all
  obtain ⟨rfl, rfl⟩ := trodVars_none hV
  have k0 := h0
  have k1 := h1
  have lt0 : ∀ x ∈ p0, x.block < W.heap.size := by obtain ⟨m, hm⟩ := k0; exact DataW.trod_lt m _ _ _ hm
  have lt1 : ∀ x ∈ p1, x.block < W.heap.size := by obtain ⟨m, hm⟩ := k1; exact DataW.trod_lt m _ _ _ hm
  obtain ⟨a0, cap0, z0, rfl, w0, c0⟩ := open_shape (hval 0 24 v0 rfl rfl) h0
  obtain ⟨a1, cap1, z1, rfl, w1, c1⟩ := open_shape (hval 1 24 v1 rfl rfl) h1
  clear hA0 hval0 hsz0
  obtain ⟨k, hk⟩ := Sb.law z0 z1
  refine (Sb.vivariumlaw24_ShapeAlike.calls k a0 cap0 z0 a1 cap1 z1 true W w0 c0 w1 c1 hk).mono fun e W' ⟨he, bel⟩ => ?_
  subst he
  exact ⟨_, rfl, _, _, _, [], _, [], hW', trodAll_mk1 (shut_bool (by kernel_rfl) _), (trodAll_cons_mk (Below.trod laidOut (by kernel_rfl) (of_decide_eq_true (by kernel_rfl)) k0 bel lt0) (trodAll_cons_mk (Below.trod laidOut (by kernel_rfl) (of_decide_eq_true (by kernel_rfl)) k1 bel lt1) trodAll_mk0)), rfl, bel.frame _, fun h => by cases h⟩
theorem over : Rows.shapeAlikeRow.holds Try.pinned (OpenSpec.ofChange Rows.shapeAlikeSpec) :=
  OpenClaim.holds_of_wide 4 Try.f4 rfl rfl rfl rfl rfl rfl rfl ⟨rfl, rfl, rfl, rfl, rfl⟩ rfl rfl rfl rfl rfl (by kernel_rfl) Try.func4 (by kernel_rfl)
    (of_decide_eq_true (by kernel_rfl)) (by unfold Func.isWrapper; first | (rw [if_pos (by decide +kernel)]; kernel_rfl) | (rw [if_neg (by decide +kernel)]; exact ⟨rfl, rfl⟩))
    (fun os started H enc _ => lifted os started H enc)
theorem proved : Rows.ShapeAlikeSaid := over
end Go.Proofs.Ytocijdlbpablkaa.shapeAlike
namespace Go.Proofs.Ytocijdlbpablkaa
/-- The row, under a short name, for the claim. -/
theorem shapeAlike_holds : Rows.ShapeAlikeSaid := shapeAlike.proved
#print axioms shapeAlike_holds
end Go.Proofs.Ytocijdlbpablkaa
