/- For every topology FoldBeside answers true, and the topology reads as it did: its walk, joined with the plain law. -/
import Derived.Test.YtfgoplgdhnjkdaaRows
import Derived.Test.YtfgoplgdhnjkdaaBe13
import Derived.Test.YtfgoplgdhnjkdaaPb
import Derived.Test.YtfgoplgdhnjkdaaXOpen
import Derived.WalkKit
import Derived.ProofKit
import Derived.OpenShut
import Derived.ShutString
import Derived.ChangeOld
import Derived.ChangeSame
import Derived.Below
import Derived.SizedLaws
namespace Go.Proofs.Ytfgoplgdhnjkdaa.foldBeside
open Go.ChangeShapes Go.WideShapes Go.ChangeAt Go.RowKit Go.Proofs.YtfgoplgdhnjkdaaW.XWords Go.Proofs.YtfgoplgdhnjkdaaW.XOpen
set_option linter.unusedVariables false
theorem own : ownKnob Try.prog.godebug = none := by kernel_rfl
theorem laidOut : laidOutB Try.prog = true := by kernel_rfl
section
variable {H : Type} {enc : TypeId × Value → H} {w : World} {base : Nat} {spare : Nat → Bool} {held : Bool}
theorem one_int {t : TypeId} {k : IntKind} (ht : Try.prog.underlying t = some (.int k)) {n : Nat} {v : Value} {x : DataW H × List MemPlace} (h : DataW.trod enc Try.prog w base spare held n t [v] = some x) : ∃ m, v = .int k m ∧ (Lit.int k m).wf = true := by
  obtain ⟨m, h1, _, hw⟩ := DataW.trod_int ht h
  exact ⟨m, by simpa using h1, hw⟩
/-- A topology, opened. -/
theorem open_topo {r : Reach} {b0 : Nat} {v : Value} {d : DataW H} {ps : List MemPlace} (hv : Value.okWide Try.prog w r b0 23 v) (h : DataW.Trod enc Try.prog w base spare held 23 v d ps) :
    ∃ a b c e f : Int, v = .agg #[.int .u8 a, .int .i64 b, .int .i64 c, .int .u8 e, .int .i64 f] ∧ (Lit.int .u8 e).wf = true := by
  obtain ⟨cs, rfl, hs⟩ := okWide_struct Try.underlying23 hv
  obtain ⟨fuel, hf⟩ := h
  obtain ⟨xs, n, _, _, hl, hlen, hx⟩ := DataW.trod_struct Try.underlying23 hf
  have h5 : cs.size = 5 := hs.trans (by kernel_rfl)
  obtain ⟨l⟩ := cs
  match l, h5 with
  | [c0, c1, c2, c3, c4], _ =>
    match xs, hlen with
    | [y0, y1, y2, y3, y4], _ =>
      have z0 : DataW.trod enc Try.prog w base spare held n 5 [c0] = some y0 := by simpa [Value.cells, show Try.prog.cellsOf 5 = 1 by kernel_rfl] using hx 0 _ rfl
      have z1 : DataW.trod enc Try.prog w base spare held n 3 [c1] = some y1 := by simpa [Value.cells, show Try.prog.cellsOf 3 = 1 by kernel_rfl] using hx 1 _ rfl
      have z2 : DataW.trod enc Try.prog w base spare held n 3 [c2] = some y2 := by simpa [Value.cells, show Try.prog.cellsOf 3 = 1 by kernel_rfl] using hx 2 _ rfl
      have z3 : DataW.trod enc Try.prog w base spare held n 5 [c3] = some y3 := by simpa [Value.cells, show Try.prog.cellsOf 5 = 1 by kernel_rfl] using hx 3 _ rfl
      have z4 : DataW.trod enc Try.prog w base spare held n 3 [c4] = some y4 := by simpa [Value.cells, show Try.prog.cellsOf 3 = 1 by kernel_rfl] using hx 4 _ rfl
      obtain ⟨a, rfl, _⟩ := one_int Try.underlying5 z0
      obtain ⟨b, rfl, _⟩ := one_int Try.underlying3 z1
      obtain ⟨c, rfl, _⟩ := one_int Try.underlying3 z2
      obtain ⟨e, rfl, he⟩ := one_int Try.underlying5 z3
      obtain ⟨f, rfl, _⟩ := one_int Try.underlying3 z4
      exact ⟨a, b, c, e, f, rfl, he⟩
end
set_option maxRecDepth 100000 in
theorem lifted (os : Os) (started : os.Started) (H : Type) (enc : TypeId × Value → H) :
    ReturnsInHanded {} Try.checked os 3 .any (Rows.foldBesideSpec.pre6 enc Try.prog Try.f3 Rows.foldBesideRow.domain false) (Rows.foldBesideSpec.post enc Try.prog Try.f3 false true false false) := by
  refine returnsInHanded_of_change_sized (C := Try.checked) own started (by kernel_rfl) Try.func3
    (ChangeSpec.witness6 (enc := enc) (C := Try.checked) false ⟨#[], #[.agg #[.int .u8 0, .int .i64 0, .int .i64 0, .int .u8 0, .int .i64 0]], []⟩ 8 (by kernel_rfl) (by kernel_rfl) (by kernel_rfl) (by kernel_rfl)) ?_
  intro W base args ds gs before hval0 hW hcnd hsz0 _
  have hval : ∀ (j : Nat) t v, Try.f3.params[j]? = some t → args[j]? = some v → Value.okWide Try.prog W .any base t v := hval0
  have hW' := hW
  obtain ⟨p, q, hA0, hV, rfl, hfz, hnd⟩ := hW
  have hA : DataW.TrodAll enc Try.prog W 0 (fun _ => true) true Try.f3.params.toList args.toList ds p := hA0
  rw [Try.params3] at hA hval
  obtain ⟨v0, vs0, d0, ds0, p0, q0, hargs, rfl, rfl, h0, r0⟩ := trodAll_cons hA
  obtain ⟨rfl, rfl, rfl⟩ := trodAll_nil r0
  obtain rfl : args = #[v0] := by cases args; simp_all
  obtain ⟨rfl, rfl⟩ := trodVars_none hV
  have k0 := h0
  have lt0 : ∀ x ∈ p0, x.block < W.heap.size := by obtain ⟨m, hm⟩ := k0; exact DataW.trod_lt m _ _ _ hm
  obtain ⟨a, b, c, e, f, rfl, he⟩ := open_topo (hval 0 23 v0 rfl rfl) h0
  clear hA0 hval0 hsz0
  obtain ⟨k, hk⟩ := Be.law a b c e f (by simp [Lit.wf] at he; exact he.1)
  refine (Be.vivariumlaw06_FoldBeside.calls k a b c e f true W hk).mono fun e W' ⟨he, bel⟩ => ?_
  subst he
  exact ⟨_, rfl, _, _, _, [], _, [], hW', trodAll_mk1 (shut_bool (by kernel_rfl) _), (trodAll_cons_mk (Below.trod laidOut (by kernel_rfl) (of_decide_eq_true (by kernel_rfl)) k0 bel lt0) trodAll_mk0), rfl, bel.frame _, fun h => by cases h⟩
theorem over : Rows.foldBesideRow.holds Try.pinned (OpenSpec.ofChange Rows.foldBesideSpec) :=
  OpenClaim.holds_of_wide 3 Try.f3 rfl rfl rfl rfl rfl rfl rfl ⟨rfl, rfl, rfl, rfl, rfl⟩ rfl rfl rfl rfl rfl (by kernel_rfl) Try.func3 (by kernel_rfl)
    (of_decide_eq_true (by kernel_rfl)) (by unfold Func.isWrapper; first | (rw [if_pos (by decide +kernel)]; kernel_rfl) | (rw [if_neg (by decide +kernel)]; exact ⟨rfl, rfl⟩))
    (fun os started H enc _ => lifted os started H enc)
theorem proved : Rows.FoldBesideSaid := over
end Go.Proofs.Ytfgoplgdhnjkdaa.foldBeside
namespace Go.Proofs.Ytfgoplgdhnjkdaa
/-- The row, under a short name, for the claim. -/
theorem foldBeside_holds : Rows.FoldBesideSaid := foldBeside.proved
#print axioms foldBeside_holds
end Go.Proofs.Ytfgoplgdhnjkdaa
