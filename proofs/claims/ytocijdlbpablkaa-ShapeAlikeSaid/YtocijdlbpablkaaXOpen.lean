/- Words of the print: what the walks of this claim use of them. -/
import Derived.Test.YtocijdlbpablkaaWWords
import Derived.Test.YtocijdlbpablkaaXWords
import Derived.Deep.Slices
import Derived.SizedLaws
import Derived.ChangeArms
set_option linter.unusedVariables false
set_option linter.unusedSimpArgs false
namespace Go.Proofs.YtocijdlbpablkaaW.XOpen
open Go.RowKit Go.ChangeShapes Go.WideShapes Go.Deep Go.Proofs.YtocijdlbpablkaaW.PrintWords Go.Proofs.YtocijdlbpablkaaW.XWords
section
variable {H : Type} {enc : TypeId × Value → H} {P : Program} {w : World} {base : Nat} {spare : Nat → Bool} {held : Bool}
def Opens (H : Type) (enc : TypeId × Value → H) (P : Program) (w : World) (base : Nat) (spare : Nat → Bool) (held : Bool) (t : TypeId) {α : Type} (d : Kd α) (ok : α → Prop) : Prop :=
  ∀ (n : Nat) (cs : List Value) (x : DataW H × List MemPlace), DataW.trod enc P w base spare held n t cs = some x → ∃ a : α, d.K w a cs ∧ ok a
theorem mapM_get {f : Nat → Option Value} : ∀ {l : List Nat} {cs : List Value}, l.mapM f = some cs → cs.length = l.length ∧ ∀ (i : Nat) (h : i < l.length), f l[i] = cs[i]? := by
  intro l
  induction l with
  | nil =>
    intro cs h
    simp at h
    subst h
    exact ⟨rfl, fun i hi => absurd hi (Nat.not_lt_zero _)⟩
  | cons a l ih =>
    intro cs h
    rw [List.mapM_cons] at h
    obtain ⟨b, hb, h⟩ := Option.bind_eq_some_iff.1 h
    obtain ⟨bs, hbs, h⟩ := Option.bind_eq_some_iff.1 h
    obtain rfl := Option.some.inj h
    obtain ⟨h1, h2⟩ := ih hbs
    refine ⟨by simp [h1], fun i hi => ?_⟩
    cases i with
    | zero => simpa using hb
    | succ i => simpa using h2 i (by simpa using hi)
theorem cells_get {a : Addr} {n : Nat} {cs : List Value} (h : w.cells? base a n = some cs) : cs.length = n ∧ ∀ i u, cs[i]? = some u → w.cell? (a.add i) = some u := by
  unfold World.cells? at h
  split at h
  · obtain ⟨h1, h2⟩ := mapM_get h
    refine ⟨by simpa using h1, fun i u hu => ?_⟩
    have hi : i < (List.range n).length := by
      have := (List.getElem?_eq_some_iff.1 hu).1
      omega
    have h3 := h2 i hi
    rw [hu] at h3
    simpa using h3
  · cases h
theorem opens_slice {t e : TypeId} {α : Type} {d : Kd α} {ok : α → Prop} (ht : P.underlying t = some (.slice e)) (hc : P.cellsOf e = d.sz) (he : Opens H enc P w base spare held e d ok) :
    Opens H enc P w base spare held t (Kd.slice e d) (fun xs => (∀ x ∈ xs, ok x) ∧ xs.length ≤ 9223372036854775807) := by
  intro n cs x h
  rcases open_slice ht h with ⟨rfl, rfl⟩ | ⟨a, len, cap, m, n', D, Pl, rfl, hb, hl, hm, hmm, rfl, hx⟩
  · exact ⟨[], ⟨none, 0, rfl, Nat.le_refl _, rfl, by simp, fun h => absurd h (Nat.lt_irrefl 0)⟩, fun x hx => by simp at hx, by simp⟩
  · have hlm : len ≤ m := by rw [hmm]; split <;> omega
    have hne : ∀ i, i < len → ∃ p : α × List Value, d.K w p.1 p.2 ∧ ok p.1 ∧ w.cells? base (a.add (i * P.cellsOf e)) (P.cellsOf e) = some p.2 := by
      intro i hi
      obtain ⟨cs', h1, h2⟩ := hx i (by omega)
      obtain ⟨p, hp, hk⟩ := he _ _ _ h2
      exact ⟨(p, cs'), hp, hk, h1⟩
    have hlen : len ≤ 9223372036854775807 := by simp only [maxLen] at hm; omega
    rcases Nat.eq_zero_or_pos len with h0 | h0
    · subst h0
      exact ⟨[], ⟨some a, cap, rfl, Nat.zero_le _, rfl, by simp, fun h => absurd h (Nat.lt_irrefl 0)⟩, fun x hx => by simp at hx, by simp⟩
    obtain ⟨p0, _, _, _⟩ := hne 0 h0
    haveI : Inhabited (α × List Value) := ⟨p0⟩
    obtain ⟨F, hF⟩ := choose_lt (p := fun i (p : α × List Value) => d.K w p.1 p.2 ∧ ok p.1 ∧ w.cells? base (a.add (i * P.cellsOf e)) (P.cellsOf e) = some p.2) hne
    have hL : ((List.range len).map fun i => (F i).1).length = len := by simp
    refine ⟨(List.range len).map fun i => (F i).1, ⟨some a, cap, by rw [hL], by rw [hL]; exact hl, by rw [hL], by rw [hL]; exact hlen, fun _ => ⟨a, rfl, fun j p hj => ?_⟩⟩, fun x hx => ?_, by rw [hL]; exact hlen⟩
    · have hj' : j < len := by
        have := (List.getElem?_eq_some_iff.1 hj).1
        simpa using this
      have hp : (F j).1 = p := by simpa [hj'] using hj
      obtain ⟨h1, h2, h3⟩ := hF j hj'
      rw [hc] at h3
      obtain ⟨h4, h5⟩ := cells_get h3
      refine ⟨(F j).2, h4, hp ▸ h1, fun i u hu => ?_⟩
      have h6 := h5 i u hu
      rwa [Deep.add_add] at h6
    · obtain ⟨i, hi, rfl⟩ := List.mem_map.1 hx
      exact (hF i (by simpa using hi)).2.1
end
end Go.Proofs.YtocijdlbpablkaaW.XOpen
