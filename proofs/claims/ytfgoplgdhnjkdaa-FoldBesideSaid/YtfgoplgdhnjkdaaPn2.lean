/- The same of the grids of the kind 2. -/
import Derived.Test.YtfgoplgdhnjkdaaPn
namespace Go.Proofs.Ytfgoplgdhnjkdaa.Be
theorem good21 : goods 2 1 = true := by decide +kernel
theorem good22 : goods 2 2 = true := by decide +kernel
theorem good23 : goods 2 3 = true := by decide +kernel
theorem good24 : goods 2 4 = true := by decide +kernel
theorem good25 : goods 2 5 = true := by decide +kernel
theorem good26 : goods 2 6 = true := by decide +kernel
theorem good2 : goodw 2 := goods_of (by
  rw [List.all_eq_true]
  intro i hi
  have : i < 6 := by simpa using hi
  rcases (by omega : i = 0 ∨ i = 1 ∨ i = 2 ∨ i = 3 ∨ i = 4 ∨ i = 5) with rfl | rfl | rfl | rfl | rfl | rfl
  · exact good21
  · exact good22
  · exact good23
  · exact good24
  · exact good25
  · exact good26)
end Go.Proofs.Ytfgoplgdhnjkdaa.Be
