/-
  No cell of these rows narrows 'for every input' (looked for: loops, veiled, ifaces, maps, wideKeys, modest, calm, conditions, laid).
  DERIVED. THE GIVEN ROWS OF THIS SEAT. 7 by the template 'for every input the law returns true; each argument reads behind the call as it read before'; 0 by the template 'total and deterministic' (their statements: YtocijdlbpablkaaTotals.lean).
  GIVEN WITH THE SEED: the statements are not yours to turn. If you find one false, say at which input.
  Laid BY PROGRAM, IN A SANDBOX (cutbox-rows.mjs): the forced cells as the released guide's own fill.sh prints them over the translation bfe14bdad8363b04… (all of the seat's roots in one cut). By AI agents, Wed Nov 11 2026. No macro, syntax, notation, axiom, sorry.
-/
import Derived.Test.YtocijdlbpablkaaChecked
import GoSem.Claim
import GoSem.ClaimJoined
import GoSem.ClaimMapViews
import Derived.JoinedTies
import Derived.KernelRfl
namespace Go.Proofs.Ytocijdlbpablkaa
/- THE CELL 'sum', in the pinned program and in every row, IS THE sha256 OF THE DUMP (.gsa) THAT YtocijdlbpablkaaProg.lean LOADS. Nothing in Lean hashes anything: it is a label: what it is worth is what the hold of that sum in a sandbox is worth. -/
noncomputable def Try.pinned : Pinned := { name := "ytocijdlbpablkaa", sum := "bfe14bdad8363b04e07972c1d9357782d23dbbf6ec8af377dc1df7c7f65e8f2f", checked := Try.checked }
namespace Rows
def none {H : Type} : Left H := { results := [], args := [] }

/-- 'vivariumlaw24.ShapeForms': WHATEVER THE INPUT: true; the input reads as it did. -/
def shapeFormsSpec : ChangeSpec := { name := "shapeForms", fn := fun _ => fun
  | [d] => { results := [.lit (.bool true)], args := [d] }
  | _ => none }
def shapeFormsRow : OpenClaim := { program := "ytocijdlbpablkaa", sum := "bfe14bdad8363b04e07972c1d9357782d23dbbf6ec8af377dc1df7c7f65e8f2f", func := "vivarium/vivariumlaw24.ShapeForms", spec := "shapeForms", unfollowed := true, recurses := true, apart := false }
def ShapeFormsSaid : Prop := shapeFormsRow.holds Try.pinned (OpenSpec.ofChange shapeFormsSpec)

/-- ITS FALSE NEIGHBOUR: 'it returns false'. Refute it at one input. -/
def shapeFormsWrong : ChangeSpec := { name := "shapeForms", fn := fun _ => fun
  | [d] => { results := [.lit (.bool false)], args := [d] }
  | _ => none }
def ShapeFormsWrongFalsely : Prop := shapeFormsRow.holds Try.pinned (OpenSpec.ofChange shapeFormsWrong)

/-- 'vivariumlaw24.ShapeAlike': WHATEVER THE INPUT: true; the input reads as it did. -/
def shapeAlikeSpec : ChangeSpec := { name := "shapeAlike", fn := fun _ => fun
  | [d1, d2] => { results := [.lit (.bool true)], args := [d1, d2] }
  | _ => none }
def shapeAlikeRow : OpenClaim := { program := "ytocijdlbpablkaa", sum := "bfe14bdad8363b04e07972c1d9357782d23dbbf6ec8af377dc1df7c7f65e8f2f", func := "vivarium/vivariumlaw24.ShapeAlike", spec := "shapeAlike", unfollowed := true, recurses := true, apart := false }
def ShapeAlikeSaid : Prop := shapeAlikeRow.holds Try.pinned (OpenSpec.ofChange shapeAlikeSpec)

/-- ITS FALSE NEIGHBOUR: 'it returns false'. Refute it at one input. -/
def shapeAlikeWrong : ChangeSpec := { name := "shapeAlike", fn := fun _ => fun
  | [d1, d2] => { results := [.lit (.bool false)], args := [d1, d2] }
  | _ => none }
def ShapeAlikeWrongFalsely : Prop := shapeAlikeRow.holds Try.pinned (OpenSpec.ofChange shapeAlikeWrong)

/-- 'vivariumlaw24.ShapeMake': WHATEVER THE INPUT: true; the input reads as it did. -/
def shapeMakeSpec : ChangeSpec := { name := "shapeMake", fn := fun _ => fun
  | [d1, d2] => { results := [.lit (.bool true)], args := [d1, d2] }
  | _ => none }
def shapeMakeRow : OpenClaim := { program := "ytocijdlbpablkaa", sum := "bfe14bdad8363b04e07972c1d9357782d23dbbf6ec8af377dc1df7c7f65e8f2f", func := "vivarium/vivariumlaw24.ShapeMake", spec := "shapeMake", unfollowed := true, recurses := true, apart := false }
def ShapeMakeSaid : Prop := shapeMakeRow.holds Try.pinned (OpenSpec.ofChange shapeMakeSpec)

/-- ITS FALSE NEIGHBOUR: 'it returns false'. Refute it at one input. -/
def shapeMakeWrong : ChangeSpec := { name := "shapeMake", fn := fun _ => fun
  | [d1, d2] => { results := [.lit (.bool false)], args := [d1, d2] }
  | _ => none }
def ShapeMakeWrongFalsely : Prop := shapeMakeRow.holds Try.pinned (OpenSpec.ofChange shapeMakeWrong)

/-- 'vivariumlaw24.ShapeGroup': WHATEVER THE INPUT: true; the input reads as it did. -/
def shapeGroupSpec : ChangeSpec := { name := "shapeGroup", fn := fun _ => fun
  | [d] => { results := [.lit (.bool true)], args := [d] }
  | _ => none }
def shapeGroupRow : OpenClaim := { program := "ytocijdlbpablkaa", sum := "bfe14bdad8363b04e07972c1d9357782d23dbbf6ec8af377dc1df7c7f65e8f2f", func := "vivarium/vivariumlaw24.ShapeGroup", spec := "shapeGroup", unfollowed := true, recurses := true, apart := false }
def ShapeGroupSaid : Prop := shapeGroupRow.holds Try.pinned (OpenSpec.ofChange shapeGroupSpec)

/-- ITS FALSE NEIGHBOUR: 'it returns false'. Refute it at one input. -/
def shapeGroupWrong : ChangeSpec := { name := "shapeGroup", fn := fun _ => fun
  | [d] => { results := [.lit (.bool false)], args := [d] }
  | _ => none }
def ShapeGroupWrongFalsely : Prop := shapeGroupRow.holds Try.pinned (OpenSpec.ofChange shapeGroupWrong)

/-- 'vivariumlaw24.ShapeMix': WHATEVER THE INPUT: true; the input reads as it did. -/
def shapeMixSpec : ChangeSpec := { name := "shapeMix", fn := fun _ => fun
  | [d1, d2, d3] => { results := [.lit (.bool true)], args := [d1, d2, d3] }
  | _ => none }
def shapeMixRow : OpenClaim := { program := "ytocijdlbpablkaa", sum := "bfe14bdad8363b04e07972c1d9357782d23dbbf6ec8af377dc1df7c7f65e8f2f", func := "vivarium/vivariumlaw24.ShapeMix", spec := "shapeMix", unfollowed := true, recurses := true, apart := false }
def ShapeMixSaid : Prop := shapeMixRow.holds Try.pinned (OpenSpec.ofChange shapeMixSpec)

/-- ITS FALSE NEIGHBOUR: 'it returns false'. Refute it at one input. -/
def shapeMixWrong : ChangeSpec := { name := "shapeMix", fn := fun _ => fun
  | [d1, d2, d3] => { results := [.lit (.bool false)], args := [d1, d2, d3] }
  | _ => none }
def ShapeMixWrongFalsely : Prop := shapeMixRow.holds Try.pinned (OpenSpec.ofChange shapeMixWrong)

/-- 'vivariumlaw24.ShapeMixes': WHATEVER THE INPUT: true; the input reads as it did. -/
def shapeMixesSpec : ChangeSpec := { name := "shapeMixes", fn := fun _ => fun
  | [d1, d2] => { results := [.lit (.bool true)], args := [d1, d2] }
  | _ => none }
def shapeMixesRow : OpenClaim := { program := "ytocijdlbpablkaa", sum := "bfe14bdad8363b04e07972c1d9357782d23dbbf6ec8af377dc1df7c7f65e8f2f", func := "vivarium/vivariumlaw24.ShapeMixes", spec := "shapeMixes", unfollowed := true, recurses := true, apart := false }
def ShapeMixesSaid : Prop := shapeMixesRow.holds Try.pinned (OpenSpec.ofChange shapeMixesSpec)

/-- ITS FALSE NEIGHBOUR: 'it returns false'. Refute it at one input. -/
def shapeMixesWrong : ChangeSpec := { name := "shapeMixes", fn := fun _ => fun
  | [d1, d2] => { results := [.lit (.bool false)], args := [d1, d2] }
  | _ => none }
def ShapeMixesWrongFalsely : Prop := shapeMixesRow.holds Try.pinned (OpenSpec.ofChange shapeMixesWrong)

/-- 'vivariumlaw24.ShapeFull': WHATEVER THE INPUT: true; the input reads as it did. -/
def shapeFullSpec : ChangeSpec := { name := "shapeFull", fn := fun _ => fun
  | [] => { results := [.lit (.bool true)], args := [] }
  | _ => none }
def shapeFullRow : OpenClaim := { program := "ytocijdlbpablkaa", sum := "bfe14bdad8363b04e07972c1d9357782d23dbbf6ec8af377dc1df7c7f65e8f2f", func := "vivarium/vivariumlaw24.ShapeFull", spec := "shapeFull", unfollowed := true, recurses := true, apart := false }
def ShapeFullSaid : Prop := shapeFullRow.holds Try.pinned (OpenSpec.ofChange shapeFullSpec)

/-- ITS FALSE NEIGHBOUR: 'it returns false'. Refute it at one input. -/
def shapeFullWrong : ChangeSpec := { name := "shapeFull", fn := fun _ => fun
  | [] => { results := [.lit (.bool false)], args := [] }
  | _ => none }
def ShapeFullWrongFalsely : Prop := shapeFullRow.holds Try.pinned (OpenSpec.ofChange shapeFullWrong)

/- THE SECOND FORM. 'bulk': how many values and letters a reading holds, each counted each time it is reached (what is shared counts as often as it is met; a slice's spare places count too). A statement '..UptoSaid' is the law's where the arguments, and the package variables that the reading takes, are together of bulk at most 1048576: NARROWER than '..Said'. Prove '..Said' where nothing that the law and all that it calls make is longer than what came in: it says more and counts as full. Else prove '..UptoSaid'. A law counts once. -/
mutual
def uptoBulk {H : Type} : DataW H → Nat
  | .lit (.string bytes) => bytes.length + 1
  | .lit _ => 1
  | .nil => 1
  | .ptr d => uptoBulk d + 1
  | .slice elems spare => uptoBulkAll elems + uptoBulkAll spare + 1
  | .agg parts => uptoBulkAll parts + 1
  | .iface _ d => uptoBulk d + 1
  | .map entries => uptoBulkEntries entries + 1
  | .held _ => 1
def uptoBulkAll {H : Type} : List (DataW H) → Nat
  | [] => 0
  | d :: r => uptoBulk d + uptoBulkAll r
def uptoBulkEntries {H : Type} : List (Lit × DataW H) → Nat
  | [] => 0
  | x :: r => uptoBulkEntry x + uptoBulkEntries r
def uptoBulkEntry {H : Type} : Lit × DataW H → Nat
  | (.string bytes, d) => bytes.length + uptoBulk d + 1
  | (_, d) => uptoBulk d + 1
 end
def uptoSmall : (H : Type) → List (DataW H) → Bool := fun _ ds => decide (uptoBulkAll ds ≤ 1048576)
def OpenSpec.upto (s : _root_.Go.ChangeSpec) : _root_.Go.OpenSpec := { _root_.Go.OpenSpec.ofChange s with cond := some uptoSmall }

/-- 'vivariumlaw24.ShapeForms', WHERE WHAT IT READS IS OF BULK AT MOST 1048576: true; the input reads as it did. -/
def shapeFormsUptoRow : OpenClaim := { program := "ytocijdlbpablkaa", sum := "bfe14bdad8363b04e07972c1d9357782d23dbbf6ec8af377dc1df7c7f65e8f2f", func := "vivarium/vivariumlaw24.ShapeForms", spec := "shapeForms", unfollowed := true, recurses := true, apart := false, narrowed := true }
def ShapeFormsUptoSaid : Prop := shapeFormsUptoRow.holds Try.pinned (OpenSpec.upto shapeFormsSpec)

/-- 'vivariumlaw24.ShapeAlike', WHERE WHAT IT READS IS OF BULK AT MOST 1048576: true; the input reads as it did. -/
def shapeAlikeUptoRow : OpenClaim := { program := "ytocijdlbpablkaa", sum := "bfe14bdad8363b04e07972c1d9357782d23dbbf6ec8af377dc1df7c7f65e8f2f", func := "vivarium/vivariumlaw24.ShapeAlike", spec := "shapeAlike", unfollowed := true, recurses := true, apart := false, narrowed := true }
def ShapeAlikeUptoSaid : Prop := shapeAlikeUptoRow.holds Try.pinned (OpenSpec.upto shapeAlikeSpec)

/-- 'vivariumlaw24.ShapeMake', WHERE WHAT IT READS IS OF BULK AT MOST 1048576: true; the input reads as it did. -/
def shapeMakeUptoRow : OpenClaim := { program := "ytocijdlbpablkaa", sum := "bfe14bdad8363b04e07972c1d9357782d23dbbf6ec8af377dc1df7c7f65e8f2f", func := "vivarium/vivariumlaw24.ShapeMake", spec := "shapeMake", unfollowed := true, recurses := true, apart := false, narrowed := true }
def ShapeMakeUptoSaid : Prop := shapeMakeUptoRow.holds Try.pinned (OpenSpec.upto shapeMakeSpec)

/-- 'vivariumlaw24.ShapeGroup', WHERE WHAT IT READS IS OF BULK AT MOST 1048576: true; the input reads as it did. -/
def shapeGroupUptoRow : OpenClaim := { program := "ytocijdlbpablkaa", sum := "bfe14bdad8363b04e07972c1d9357782d23dbbf6ec8af377dc1df7c7f65e8f2f", func := "vivarium/vivariumlaw24.ShapeGroup", spec := "shapeGroup", unfollowed := true, recurses := true, apart := false, narrowed := true }
def ShapeGroupUptoSaid : Prop := shapeGroupUptoRow.holds Try.pinned (OpenSpec.upto shapeGroupSpec)

/-- 'vivariumlaw24.ShapeMix', WHERE WHAT IT READS IS OF BULK AT MOST 1048576: true; the input reads as it did. -/
def shapeMixUptoRow : OpenClaim := { program := "ytocijdlbpablkaa", sum := "bfe14bdad8363b04e07972c1d9357782d23dbbf6ec8af377dc1df7c7f65e8f2f", func := "vivarium/vivariumlaw24.ShapeMix", spec := "shapeMix", unfollowed := true, recurses := true, apart := false, narrowed := true }
def ShapeMixUptoSaid : Prop := shapeMixUptoRow.holds Try.pinned (OpenSpec.upto shapeMixSpec)

/-- 'vivariumlaw24.ShapeMixes', WHERE WHAT IT READS IS OF BULK AT MOST 1048576: true; the input reads as it did. -/
def shapeMixesUptoRow : OpenClaim := { program := "ytocijdlbpablkaa", sum := "bfe14bdad8363b04e07972c1d9357782d23dbbf6ec8af377dc1df7c7f65e8f2f", func := "vivarium/vivariumlaw24.ShapeMixes", spec := "shapeMixes", unfollowed := true, recurses := true, apart := false, narrowed := true }
def ShapeMixesUptoSaid : Prop := shapeMixesUptoRow.holds Try.pinned (OpenSpec.upto shapeMixesSpec)

/-- 'vivariumlaw24.ShapeFull', WHERE WHAT IT READS IS OF BULK AT MOST 1048576: true; the input reads as it did. -/
def shapeFullUptoRow : OpenClaim := { program := "ytocijdlbpablkaa", sum := "bfe14bdad8363b04e07972c1d9357782d23dbbf6ec8af377dc1df7c7f65e8f2f", func := "vivarium/vivariumlaw24.ShapeFull", spec := "shapeFull", unfollowed := true, recurses := true, apart := false, narrowed := true }
def ShapeFullUptoSaid : Prop := shapeFullUptoRow.holds Try.pinned (OpenSpec.upto shapeFullSpec)

end Rows
end Go.Proofs.Ytocijdlbpablkaa
