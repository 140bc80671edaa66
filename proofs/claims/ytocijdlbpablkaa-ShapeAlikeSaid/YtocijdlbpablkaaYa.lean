/- What the sorted and turned shapes come to, by the program and by the document; for any two shapes the law answers true, as its walk reckons it. -/
import Derived.Test.YtocijdlbpablkaaSb4
import Derived.Test.YtocijdlbpablkaaSb7
import Derived.Test.YtocijdlbpablkaaSb8
import Derived.Test.YtocijdlbpablkaaSb9
import Derived.Test.YtocijdlbpablkaaSb10
import Derived.Test.YtocijdlbpablkaaSb17
import Derived.Test.YtocijdlbpablkaaSb6
import Derived.Test.YtocijdlbpablkaaSb15
import Derived.Test.YtocijdlbpablkaaSb16
import Derived.Test.YtocijdlbpablkaaXI
import Derived.Test.YtocijdlbpablkaaSb11
import Derived.Test.YtocijdlbpablkaaSb19
import Derived.Test.YtocijdlbpablkaaSb20
/- The stable sort of the shapes' cells, on lists: insertion sort, exchange of ranges, rotation. -/
namespace Go.Proofs.Ytocijdlbpablkaa.Sb
open Go.RowKit Go.Proofs.YtocijdlbpablkaaW.PrintWords
set_option linter.unusedVariables false

theorem w64 {x : Int} (h : -4611686018427387904 ≤ x ∧ x ≤ 4611686018427387904) : wrap64 x = x := by unfold wrap64; omega
theorem w64_add {a b c : Nat} (h : a + b = c) (hc : c ≤ 4611686018427387904) : wrap64 ((a : Int) + b) = (c : Int) := by rw [w64 (by omega)]; omega
theorem w64_succ {a : Nat} (h : a < 4611686018427387904) : wrap64 ((a : Int) + 1) = ((a + 1 : Nat) : Int) := by rw [w64 (by omega)]; omega
theorem w64_sub {a b c : Nat} (h : c + b = a) (hc : a ≤ 4611686018427387904) : wrap64 ((a : Int) - b) = (c : Int) := by rw [w64 (by omega)]; omega
def V (xs : List S61) (i : Nat) : S61 := xs.getD i z61
theorem rd_V (xs : List S61) (i : Nat) : rd_T61 xs (i : Int) = V xs i := by simp [rd_T61, V]
theorem V_eq {xs : List S61} {i : Nat} (h : i < xs.length) : V xs i = xs[i] := by simp [V, h]
def lt (a b : S61) : Prop := a.f1 < b.f1 ∨ (a.f1 = b.f1 ∧ a.f0 < b.f0)
theorem lt_irrefl (a : S61) : ¬ lt a a := by unfold lt; omega
theorem lt_asymm {a b : S61} (h : lt a b) : ¬ lt b a := by unfold lt at *; omega
theorem le_trans' {a b c : S61} (h : ¬ lt b a) (h' : ¬ lt c b) : ¬ lt c a := by unfold lt at *; omega
def cmpv (a b : S61) : Int := if a.f1 < b.f1 then -1 else if a.f1 > b.f1 then 1 else if a.f0 < b.f0 then -1 else if a.f0 > b.f0 then 1 else 0
theorem cmpv_neg (a b : S61) : cmpv a b < 0 ↔ lt a b := by
  unfold cmpv lt
  repeat' split
  all_goals omega
theorem cmpv_zero (a b : S61) : cmpv a b = 0 ↔ (a.f1 = b.f1 ∧ a.f0 = b.f0) := by
  unfold cmpv
  repeat' split
  all_goals omega
theorem isNaN_eq (a : Int) : cmp_isNaN_int.f a = some false := by simp [cmp_isNaN_int.f]
theorem compare_eq (a b : Int) : cmp_Compare_int.f a b = some (if a < b then -1 else if a > b then 1 else 0) := by
  unfold cmp_Compare_int.f
  rw [isNaN_eq, Option.bind_some, isNaN_eq, Option.bind_some, if_neg (by decide), if_neg (by decide)]
  repeat' split
  all_goals rfl
theorem or_eq (x y : Int) {k : Nat} (hk : 3 ≤ k) : cmp_Or_int.f k [x, y] = some (if x = 0 then y else x) := by
  obtain ⟨n, rfl⟩ : ∃ n, k = n + 1 + 1 + 1 := ⟨k - 3, by omega⟩
  unfold cmp_Or_int.f
  rw [show (([x, y] : List Int).length : Int) = 2 from rfl]
  rw [cmp_Or_int.l0, if_pos (by decide), if_pos (by decide), if_pos (by simp), show rd [x, y] 0 = x from rfl, show wrap64 (0 + 1) = 1 from w64 (by omega)]
  by_cases hx : x = 0
  · rw [if_pos hx, if_pos hx, cmp_Or_int.l0, if_pos (by decide), if_pos (by decide), if_pos (by simp), show rd [x, y] 1 = y from rfl, show wrap64 (1 + 1) = 2 from w64 (by omega)]
    by_cases hy : y = 0
    · rw [if_pos hy, cmp_Or_int.l0, if_neg (by decide), hy]
    · rw [if_neg hy]
  · rw [if_neg hx, if_neg hx]
theorem byRows_eq (a b : S61) {k : Nat} (hk : 3 ≤ k) : shape_byRows.f k a.f0 a.f1 a.f2 b.f0 b.f1 b.f2 = some (cmpv a b) := by
  unfold shape_byRows.f
  rw [compare_eq, Option.bind_some, compare_eq, Option.bind_some, or_eq _ _ hk, Option.bind_some]
  unfold cmpv
  congr 1
  repeat' split
  all_goals first | rfl | omega

/-- Two elements exchanged. -/
def sw (xs : List S61) (i j : Nat) : List S61 := (xs.set i (V xs j)).set j (V xs i)
theorem V_set (xs : List S61) (i : Nat) (v : S61) (k : Nat) (h : i < xs.length) : V (xs.set i v) k = if k = i then v else V xs k := by
  unfold V
  rw [List.getD_eq_getElem?_getD, List.getD_eq_getElem?_getD, List.getElem?_set]
  by_cases hk : i = k
  · subst hk; rw [if_pos rfl, if_pos h, if_pos rfl]; rfl
  · rw [if_neg hk, if_neg (Ne.symm hk)]
theorem V_sw {xs : List S61} {i j : Nat} (hi : i < xs.length) (hj : j < xs.length) (k : Nat) : V (sw xs i j) k = if k = j then V xs i else if k = i then V xs j else V xs k := by
  unfold sw
  rw [V_set _ _ _ _ (by rw [List.length_set]; exact hj), V_set _ _ _ _ hi]
theorem len_sw (xs : List S61) (i j : Nat) : (sw xs i j).length = xs.length := by unfold sw; rw [List.length_set, List.length_set]
theorem prm_sw {xs : List S61} {i j : Nat} (hi : i < xs.length) (hj : j < xs.length) : (sw xs i j).Perm xs := by
  unfold sw
  rw [V_eq hi, V_eq hj]
  exact List.set_set_perm hi hj

/-- What a piece of work on the places from a on, up to b, keeps. -/
structure Kp (l r : List S61) (a b : Nat) : Prop where
  len : r.length = l.length
  prm : r.Perm l
  out : ∀ i, (i < a ∨ b ≤ i) → V r i = V l i
  ins : ∀ i, a ≤ i → i < b → ∃ j, a ≤ j ∧ j < b ∧ V r i = V l j
theorem Kp.refl (l : List S61) (a b : Nat) : Kp l l a b := ⟨rfl, List.Perm.refl _, fun _ _ => rfl, fun i h1 h2 => ⟨i, h1, h2, rfl⟩⟩
theorem Kp.trans {l m r : List S61} {a b : Nat} (h : Kp l m a b) (h' : Kp m r a b) : Kp l r a b :=
  ⟨h'.len.trans h.len, h'.prm.trans h.prm, fun i hi => (h'.out i hi).trans (h.out i hi), fun i h1 h2 => by
    obtain ⟨j, g1, g2, e⟩ := h'.ins i h1 h2
    obtain ⟨n, f1, f2, e'⟩ := h.ins j g1 g2
    exact ⟨n, f1, f2, e.trans e'⟩⟩
theorem Kp.widen {l r : List S61} {a b a' b' : Nat} (h : Kp l r a' b') (ha : a ≤ a') (hb : b' ≤ b) : Kp l r a b :=
  ⟨h.len, h.prm, fun i hi => h.out i (by omega), fun i h1 h2 => by
    by_cases hi : a' ≤ i ∧ i < b'
    · obtain ⟨j, g1, g2, e⟩ := h.ins i hi.1 hi.2
      exact ⟨j, by omega, by omega, e⟩
    · exact ⟨i, h1, h2, h.out i (by omega)⟩⟩
theorem Kp.sw {l : List S61} {i j a b : Nat} (hi : i < l.length) (hj : j < l.length) (h1 : a ≤ i) (h2 : i < b) (h3 : a ≤ j) (h4 : j < b) : Kp l (sw l i j) a b :=
  ⟨len_sw _ _ _, prm_sw hi hj, fun k hk => by rw [V_sw hi hj, if_neg (by omega), if_neg (by omega)], fun k g1 g2 => by
    rw [V_sw hi hj]
    by_cases e1 : k = j
    · exact ⟨i, h1, h2, by rw [if_pos e1]⟩
    · by_cases e2 : k = i
      · exact ⟨j, h3, h4, by rw [if_neg e1, if_pos e2]⟩
      · exact ⟨k, g1, g2, by rw [if_neg e1, if_neg e2]⟩⟩
def So (l : List S61) (a b : Nat) : Prop := ∀ i j, a ≤ i → i < j → j < b → ¬ lt (V l j) (V l i)

/-! insertion sort -/
def Inv (x : List S61) (a i j : Nat) : Prop := (∀ p q, a ≤ p → p < q → q ≤ i → p ≠ j → q ≠ j → ¬ lt (V x q) (V x p)) ∧ ∀ q, j < q → q ≤ i → ¬ lt (V x q) (V x j)
theorem Inv.start {x : List S61} {a i : Nat} (h : So x a i) : Inv x a i i := ⟨fun p q h1 h2 h3 _ h5 => h p q h1 h2 (by omega), fun q h1 h2 => by omega⟩
theorem Inv.step {x : List S61} {a i j : Nat} (hj : a < j) (hji : j ≤ i) (hl : i < x.length) (h : Inv x a i j) (hlt : lt (V x j) (V x (j - 1))) : Inv (sw x j (j - 1)) a i (j - 1) := by
  obtain ⟨h1, h2⟩ := h
  have hv := V_sw (xs := x) (i := j) (j := j - 1) (by omega) (by omega)
  constructor
  · intro p q g1 g2 g3 g4 g5
    rw [hv, hv, if_neg g5, if_neg g4]
    by_cases e1 : q = j
    · rw [if_pos e1, if_neg (by omega)]
      exact h1 p (j - 1) g1 (by omega) (by omega) (by omega) (by omega)
    · rw [if_neg e1]
      by_cases e2 : p = j
      · rw [if_pos e2]
        exact h1 (j - 1) q (by omega) (by omega) g3 (by omega) (by omega)
      · rw [if_neg e2]
        exact h1 p q g1 g2 g3 e2 e1
  · intro q g1 g2
    rw [hv, hv, if_neg (by omega), if_pos rfl]
    by_cases e1 : q = j
    · rw [if_pos e1]
      exact lt_asymm hlt
    · rw [if_neg e1]
      exact h2 q (by omega) g2
theorem Inv.done {x : List S61} {a i j : Nat} (haj : a ≤ j) (hji : j ≤ i) (h : Inv x a i j) (he : j = a ∨ ¬ lt (V x j) (V x (j - 1))) : So x a (i + 1) := by
  obtain ⟨h1, h2⟩ := h
  intro p q g1 g2 g3
  by_cases e1 : p = j
  · subst e1; exact h2 q g2 (by omega)
  · by_cases e2 : q = j
    · subst e2
      rcases he with he | he
      · omega
      · by_cases e3 : p = q - 1
        · subst e3; exact he
        · exact le_trans' (h1 p (q - 1) g1 (by omega) (by omega) e1 (by omega)) he
    · exact h1 p q g1 g2 (by omega) e1 e2

theorem ins_inner (a b i : Nat) (x0 : List S61) (hl0 : x0.length ≤ 4611686018427387900) (hb : b ≤ x0.length) (hi : i < b) : ∀ (d j : Nat) (x : List S61), j - a = d → a ≤ j → j ≤ i → Kp x0 x a b → Inv x a i j →
    ∃ x', Kp x0 x' a b ∧ So x' a (i + 1) ∧ ∀ r, Ev (fun k => api_Cell_81.l0 k x' a b (i + 1 : Nat)) r → Ev (fun k => api_Cell_81.l1 k x a b i j) r := by
  intro d
  induction d with
  | zero =>
    intro j x hd haj hji hk hinv
    have hl : x.length = x0.length := hk.len
    refine ⟨x, hk, hinv.done haj hji (.inl (by omega)), ?_⟩
    rintro r ⟨K, h⟩
    refine ⟨K + 1, fun k hk' => ?_⟩
    obtain ⟨k, rfl⟩ : ∃ m, k = m + 1 := ⟨k - 1, by omega⟩
    show api_Cell_81.l1 (k + 1) x a b i j = _
    rw [api_Cell_81.l1, if_neg (by omega), w64 (by omega)]
    exact h k (by omega)
  | succ d ih =>
    intro j x hd haj hji hk hinv
    have hl : x.length = x0.length := hk.len
    have e1 : wrap64 ((j : Int) - 1) = ((j - 1 : Nat) : Int) := by rw [w64 (by omega)]; omega
    by_cases hlt : lt (V x j) (V x (j - 1))
    · have hsw : Kp x (sw x j (j - 1)) a b := Kp.sw (by omega) (by omega) (by omega) (by omega) (by omega) (by omega)
      obtain ⟨x', h1, h2, h3⟩ := ih (j - 1) (sw x j (j - 1)) (by omega) (by omega) (by omega) (hk.trans hsw) (hinv.step (by omega) hji (by omega) hlt)
      refine ⟨x', h1, h2, fun r hr => ?_⟩
      obtain ⟨K, h⟩ := h3 r hr
      refine ⟨K + 4, fun k hk' => ?_⟩
      obtain ⟨k, rfl⟩ : ∃ m, k = m + 1 := ⟨k - 1, by omega⟩
      show api_Cell_81.l1 (k + 1) x a b i j = _
      rw [api_Cell_81.l1, if_pos (by omega), if_pos (by omega), if_pos (by omega), e1, if_pos (by omega), if_pos (by omega), rd_V, rd_V, byRows_eq _ _ (by omega), Option.bind_some, if_pos ((cmpv_neg _ _).2 hlt)]
      exact h k (by omega)
    · refine ⟨x, hk, hinv.done haj hji (.inr hlt), ?_⟩
      rintro r ⟨K, h⟩
      refine ⟨K + 4, fun k hk' => ?_⟩
      obtain ⟨k, rfl⟩ : ∃ m, k = m + 1 := ⟨k - 1, by omega⟩
      show api_Cell_81.l1 (k + 1) x a b i j = _
      rw [api_Cell_81.l1, if_pos (by omega), if_pos (by omega), if_pos (by omega), e1, if_pos (by omega), if_pos (by omega), rd_V, rd_V, byRows_eq _ _ (by omega), Option.bind_some, if_neg (fun h => hlt ((cmpv_neg _ _).1 h)), w64 (by omega)]
      exact h k (by omega)
theorem ins_outer (a b : Nat) (x0 : List S61) (hl0 : x0.length ≤ 4611686018427387900) (hb : b ≤ x0.length) : ∀ (d i : Nat) (x : List S61), b - i = d → a ≤ i → Kp x0 x a b → So x a (min i b) →
    ∃ r, Ev (fun k => api_Cell_81.l0 k x a b i) r ∧ Kp x0 r a b ∧ So r a b := by
  intro d
  induction d with
  | zero =>
    intro i x hd hai hk hs
    refine ⟨x, ⟨1, fun k hk' => ?_⟩, hk, by rwa [Nat.min_eq_right (by omega)] at hs⟩
    obtain ⟨k, rfl⟩ : ∃ m, k = m + 1 := ⟨k - 1, by omega⟩
    show api_Cell_81.l0 (k + 1) x a b i = _
    rw [api_Cell_81.l0, if_neg (by omega)]
  | succ d ih =>
    intro i x hd hai hk hs
    rw [Nat.min_eq_left (by omega)] at hs
    obtain ⟨x', h1, h2, h3⟩ := ins_inner a b i x0 hl0 hb (by omega) (i - a) i x rfl hai (Nat.le_refl _) hk (Inv.start hs)
    obtain ⟨r, g1, g2, g3⟩ := ih (i + 1) x' (by omega) (by omega) h1 (by rwa [Nat.min_eq_left (by omega)])
    refine ⟨r, ?_, g2, g3⟩
    obtain ⟨K, h⟩ := h3 r g1
    refine ⟨K + 1, fun k hk' => ?_⟩
    obtain ⟨k, rfl⟩ : ∃ m, k = m + 1 := ⟨k - 1, by omega⟩
    show api_Cell_81.l0 (k + 1) x a b i = _
    rw [api_Cell_81.l0, if_pos (by omega)]
    exact h k (by omega)
/-- Insertion sort. -/
theorem insert_ev (x : List S61) (a b : Nat) (hl : x.length ≤ 4611686018427387900) (hab : a ≤ b) (hb : b ≤ x.length) : ∃ r, Ev (fun k => api_Cell_81.f k x a b) r ∧ Kp x r a b ∧ So r a b := by
  have e : wrap64 ((a : Int) + 1) = ((a + 1 : Nat) : Int) := by rw [w64 (by omega)]; omega
  obtain ⟨r, h1, h2, h3⟩ := ins_outer a b x hl hb (b - (a + 1)) (a + 1) x rfl (by omega) (Kp.refl _ _ _) (fun i j g1 g2 g3 => by omega)
  refine ⟨r, ?_, h2, h3⟩
  unfold api_Cell_81.f
  rw [e]
  exact h1

/-! exchange of ranges -/
structure Ex (x r : List S61) (a b i n : Nat) : Prop where
  lf : ∀ t, i ≤ t → t < n → V r (a + t) = V x (b + t)
  rg : ∀ t, i ≤ t → t < n → V r (b + t) = V x (a + t)
  ot : ∀ p, (p < a + i ∨ a + n ≤ p) → (p < b + i ∨ b + n ≤ p) → V r p = V x p
theorem Ex.step {x y r : List S61} {a b i n : Nat} (hd : a + n ≤ b ∨ b + n ≤ a) (hi : i < n) (hv : ∀ k, V y k = if k = b + i then V x (a + i) else if k = a + i then V x (b + i) else V x k) (h : Ex y r a b (i + 1) n) : Ex x r a b i n where
  lf t h1 h2 := by
    by_cases e : t = i
    · subst e
      rw [h.ot (a + t) (by omega) (by omega), hv, if_neg (by omega), if_pos rfl]
    · rw [h.lf t (by omega) h2, hv, if_neg (by omega), if_neg (by omega)]
  rg t h1 h2 := by
    by_cases e : t = i
    · subst e
      rw [h.ot (b + t) (by omega) (by omega), hv, if_pos rfl]
    · rw [h.rg t (by omega) h2, hv, if_neg (by omega), if_neg (by omega)]
  ot p h1 h2 := by
    rw [h.ot p (by omega) (by omega), hv, if_neg (by omega), if_neg (by omega)]
theorem range_loop (a b n lo hi : Nat) (ha : lo ≤ a) (hb : lo ≤ b) (ha' : a + n ≤ hi) (hb' : b + n ≤ hi) (hd : a + n ≤ b ∨ b + n ≤ a) : ∀ (d i : Nat) (x : List S61), i + d = n → hi ≤ x.length → x.length ≤ 4611686018427387900 →
    ∃ r, Ev (fun k => api_Cell_84.l0 k x a b n i) r ∧ Kp x r lo hi ∧ Ex x r a b i n := by
  intro d
  induction d with
  | zero =>
    intro i x hd' hx hl
    refine ⟨x, ⟨1, fun k hk' => ?_⟩, Kp.refl _ _ _, fun t h1 h2 => by omega, fun t h1 h2 => by omega, fun p _ _ => rfl⟩
    obtain ⟨k, rfl⟩ : ∃ m, k = m + 1 := ⟨k - 1, by omega⟩
    show api_Cell_84.l0 (k + 1) x a b n i = _
    rw [api_Cell_84.l0, if_neg (by omega)]
  | succ d ih =>
    intro i x hd' hx hl
    have q1 : a + i < x.length := by omega
    have q2 : b + i < x.length := by omega
    have q3 : i < n := by omega
    have q4 : b + i ≤ 4611686018427387904 := by omega
    have q5 : a + i ≤ 4611686018427387904 := by omega
    have q6 : i < 4611686018427387904 := by omega
    have hsw : Kp x (sw x (a + i) (b + i)) lo hi := Kp.sw q1 q2 (by omega) (by omega) (by omega) (by omega)
    have hstep : ∀ k, api_Cell_84.l0 (k + 1) x a b n i = api_Cell_84.l0 k (sw x (a + i) (b + i)) a b n (i + 1 : Nat) := fun k => by
      rw [api_Cell_84.l0, if_pos (Int.ofNat_lt.2 q3), w64_add (a := b) (b := i) rfl q4, w64_add (a := a) (b := i) rfl q5, w64_succ q6, if_pos (Int.natCast_nonneg _), if_pos (Int.ofNat_lt.2 q2), if_pos (Int.natCast_nonneg _), if_pos (Int.ofNat_lt.2 q1), rd_V, rd_V]
      rfl
    obtain ⟨r, ⟨K, h1⟩, h2, h3⟩ := ih (i + 1) (sw x (a + i) (b + i)) (by omega) (by rw [len_sw]; exact hx) (by rw [len_sw]; exact hl)
    refine ⟨r, ⟨K + 1, fun k hk' => ?_⟩, hsw.trans h2, h3.step hd q3 (V_sw q1 q2)⟩
    obtain ⟨k, rfl⟩ : ∃ m, k = m + 1 := ⟨k - 1, by omega⟩
    exact (hstep k).trans (h1 k (by omega))
theorem range_ev (x : List S61) (a b n lo hi : Nat) (ha : lo ≤ a) (hb : lo ≤ b) (ha' : a + n ≤ hi) (hb' : b + n ≤ hi) (hd : a + n ≤ b ∨ b + n ≤ a) (hx : hi ≤ x.length) (hl : x.length ≤ 4611686018427387900) :
    ∃ r, Ev (fun k => api_Cell_84.f k x a b n) r ∧ Kp x r lo hi ∧ Ex x r a b 0 n :=
  range_loop a b n lo hi ha hb ha' hb' hd n 0 x (Nat.zero_add _) hx hl

/-! rotation: the block of i places from c on and the block of j places behind it change places -/
structure Ro (x r : List S61) (c i j : Nat) : Prop where
  lf : ∀ t, t < j → V r (c + t) = V x (c + i + t)
  rg : ∀ t, t < i → V r (c + j + t) = V x (c + t)
  ot : ∀ p, (p < c ∨ c + i + j ≤ p) → V r p = V x p
theorem Ro.same {x r : List S61} {c i : Nat} (h : Ex x r c (c + i) 0 i) : Ro x r c i i where
  lf t ht := h.lf t (Nat.zero_le _) ht
  rg t ht := h.rg t (Nat.zero_le _) ht
  ot p hp := h.ot p (by omega) (by omega)
theorem Ro.left {x y r : List S61} {c i j : Nat} (h : Ex x y c (c + (i + j)) 0 j) (h' : Ro y r (c + j) i j) : Ro x r c (i + j) j where
  lf t ht := by rw [h'.ot (c + t) (by omega), h.lf t (Nat.zero_le _) ht]
  rg t ht := by
    by_cases e2 : t < j
    · rw [h'.lf t e2, show c + j + i + t = c + (i + j) + t by omega, h.rg t (Nat.zero_le _) e2]
    · obtain ⟨s, rfl⟩ : ∃ s, t = j + s := ⟨t - j, by omega⟩
      rw [show c + j + (j + s) = c + j + j + s by omega, h'.rg s (by omega), h.ot (c + j + s) (by omega) (by omega)]
      congr 1
      omega
  ot p hp := by rw [h'.ot p (by omega), h.ot p (by omega) (by omega)]
theorem Ro.right {x y r : List S61} {c i j : Nat} (h : Ex x y c (c + i + j) 0 i) (h' : Ro y r c i j) : Ro x r c i (i + j) where
  lf t ht := by
    by_cases e : t < j
    · rw [h'.lf t e]
      by_cases e2 : c + i + t < c + i + j
      · rw [h.ot (c + i + t) (by omega) (by omega)]
      · omega
    · obtain ⟨s, rfl⟩ : ∃ s, t = j + s := ⟨t - j, by omega⟩
      rw [show c + (j + s) = c + j + s by omega, h'.rg s (by omega), h.lf s (Nat.zero_le _) (by omega)]
      congr 1
      omega
  rg t ht := by
    rw [h'.ot (c + (i + j) + t) (by omega), show c + (i + j) + t = c + i + j + t by omega, h.rg t (Nat.zero_le _) ht]
  ot p hp := by rw [h'.ot p (by omega), h.ot p (by omega) (by omega)]
theorem rot_loop (m lo hi : Nat) : ∀ (s c i j : Nat) (x : List S61), i + j = s → 0 < i → 0 < j → c + i = m → lo ≤ c → m + j ≤ hi → hi ≤ x.length → x.length ≤ 4611686018427387900 →
    ∃ r, Ev (fun k => api_Cell_83.l0 k x m i j) r ∧ Kp x r lo hi ∧ Ro x r c i j := by
  intro s
  induction s using Nat.strongRecOn with
  | _ s ih =>
    intro c i j x hs hi0 hj0 hc h1 h2 h3 h4
    have qm : m ≤ 4611686018427387904 := by omega
    by_cases hij : i = j
    · subst hij
      obtain ⟨r, ⟨K, g1⟩, g2, g3⟩ := range_ev x c m i lo hi (by omega) (by omega) (by omega) (by omega) (by omega) h3 h4
      have hs : ∀ k, K ≤ k → api_Cell_83.l0 (k + 1) x m i i = some r := fun k hk => by
        rw [api_Cell_83.l0, if_pos rfl, w64_sub hc qm, show api_Cell_84.f k x c m i = some r from g1 k hk, Option.bind_some]
      subst hc
      refine ⟨r, ⟨K + 1, fun k hk' => ?_⟩, g2, Ro.same g3⟩
      obtain ⟨k, rfl⟩ : ∃ m, k = m + 1 := ⟨k - 1, by omega⟩
      exact hs k (by omega)
    · by_cases hgt : j < i
      · obtain ⟨i', rfl⟩ : ∃ i', i = i' + j := ⟨i - j, by omega⟩
        obtain ⟨y, ⟨K, g1⟩, g2, g3⟩ := range_ev x c m j lo hi (by omega) (by omega) (by omega) (by omega) (by omega) h3 h4
        have hy : y.length = x.length := g2.len
        obtain ⟨r, ⟨K', f1⟩, f2, f3⟩ := ih (i' + j) (by omega) (c + j) i' j y rfl (by omega) hj0 (by omega) (by omega) h2 (by omega) (by omega)
        have q1 : i' + j ≤ 4611686018427387904 := by omega
        have q2 : j < i' + j := hgt
        have hs : ∀ k, K ≤ k → api_Cell_83.l0 (k + 1) x m (i' + j : Nat) j = api_Cell_83.l0 k y m i' j := fun k hk => by
          rw [api_Cell_83.l0, if_neg (fun h => hij (Int.ofNat_inj.1 h)), if_pos (Int.ofNat_lt.2 q2), w64_sub hc qm, show api_Cell_84.f k x c m j = some y from g1 k hk, Option.bind_some, w64_sub (a := i' + j) (b := j) (c := i') rfl q1]
        subst hc
        refine ⟨r, ⟨K + K' + 1, fun k hk' => ?_⟩, g2.trans f2, Ro.left g3 f3⟩
        obtain ⟨k, rfl⟩ : ∃ m, k = m + 1 := ⟨k - 1, by omega⟩
        exact (hs k (by omega)).trans (f1 k (by omega))
      · obtain ⟨j', rfl⟩ : ∃ j', j = i + j' := ⟨j - i, by omega⟩
        obtain ⟨y, ⟨K, g1⟩, g2, g3⟩ := range_ev x c (m + j') i lo hi (by omega) (by omega) (by omega) (by omega) (by omega) h3 h4
        have hy : y.length = x.length := g2.len
        obtain ⟨r, ⟨K', f1⟩, f2, f3⟩ := ih (i + j') (by omega) c i j' y rfl hi0 (by omega) hc h1 (by omega) (by omega) (by omega)
        have q1 : i + j' ≤ 4611686018427387904 := by omega
        have q2 : m + (i + j') ≤ 4611686018427387904 := by omega
        have q3 : ¬ (i + j' < i) := by omega
        have q4 : m + j' + i = m + (i + j') := by omega
        have q5 : j' + i = i + j' := by omega
        have hs : ∀ k, K ≤ k → api_Cell_83.l0 (k + 1) x m i (i + j' : Nat) = api_Cell_83.l0 k y m i j' := fun k hk => by
          rw [api_Cell_83.l0, if_neg (fun h => hij (Int.ofNat_inj.1 h)), if_neg (fun h => q3 (Int.ofNat_lt.1 h)), w64_sub hc qm, w64_add (a := m) (b := i + j') rfl q2, w64_sub q4 q2, show api_Cell_84.f k x c (m + j' : Nat) i = some y from g1 k hk, Option.bind_some, w64_sub q5 q1]
        subst hc
        refine ⟨r, ⟨K + K' + 1, fun k hk' => ?_⟩, g2.trans f2, Ro.right g3 f3⟩
        obtain ⟨k, rfl⟩ : ∃ m, k = m + 1 := ⟨k - 1, by omega⟩
        exact (hs k (by omega)).trans (f1 k (by omega))
theorem rotate_ev (x : List S61) (a i j : Nat) (h1 : 0 < i) (h2 : 0 < j) (h3 : a + i + j ≤ x.length) (h4 : x.length ≤ 4611686018427387900) :
    ∃ r, Ev (fun k => api_Cell_83.f k x a (a + i : Nat) (a + i + j : Nat)) r ∧ Kp x r a (a + i + j) ∧ Ro x r a i j := by
  obtain ⟨r, g1, g2, g3⟩ := rot_loop (a + i) a (a + i + j) (i + j) a i j x rfl h1 h2 rfl (Nat.le_refl _) (Nat.le_refl _) h3 h4
  have e1 := w64_sub (a := a + i) (b := a) (c := i) (by omega) (by omega)
  have e2 := w64_sub (a := a + i + j) (b := a + i) (c := j) (by omega) (by omega)
  refine ⟨r, ?_, g2, g3⟩
  unfold api_Cell_83.f
  rw [e1, e2]
  exact g1
end Go.Proofs.Ytocijdlbpablkaa.Sb
/- The stable sort of the shapes' cells, on lists: the merge of two sorted halves in place. -/
namespace Go.Proofs.Ytocijdlbpablkaa.Sb
open Go.RowKit Go.Proofs.YtocijdlbpablkaaW.PrintWords
set_option linter.unusedVariables false

theorem half_eq {a b : Nat} (h : a + b ≤ 4611686018427387904) : wrap64 ((IntKind.u64.wrap (wrap64 ((a : Int) + b))) / 2) = (((a + b) / 2 : Nat) : Int) := by
  rw [w64 (x := (a : Int) + b) (by omega)]
  have : IntKind.u64.wrap ((a : Int) + b) = (a : Int) + b := by
    unfold IntKind.wrap IntKind.signed IntKind.bits
    simp
    omega
  rw [this, w64 (by omega)]
  omega
theorem lt_of_le_lt {a b c : S61} (h : ¬ lt b a) (h' : lt b c) : lt a c := by unfold lt at *; omega
theorem lt_of_lt_le {a b c : S61} (h : lt a b) (h' : ¬ lt c b) : lt a c := by unfold lt at *; omega

/-! one element on the left: where it belongs -/
theorem find1 (x : List S61) (a lo hi : Nat) (hl : x.length ≤ 2305843009213693000) (ha : a < x.length) (hhi : hi ≤ x.length) (hs : So x lo hi) : ∀ (s i j : Nat), j - i = s → lo ≤ i → i ≤ j → j ≤ hi → (∀ q, lo ≤ q → q < i → lt (V x q) (V x a)) → (∀ q, j ≤ q → q < hi → ¬ lt (V x q) (V x a)) →
    ∃ p, lo ≤ p ∧ p ≤ hi ∧ (∀ q, lo ≤ q → q < p → lt (V x q) (V x a)) ∧ (∀ q, p ≤ q → q < hi → ¬ lt (V x q) (V x a)) ∧ ∀ r, Ev (fun k => api_Cell_82.l1 k x p a) r → Ev (fun k => api_Cell_82.l0 k x a i j) r := by
  intro s
  induction s using Nat.strongRecOn with
  | _ s ih =>
    intro i j hs' h1 h2 h3 h4 h5
    by_cases hij : i < j
    · obtain ⟨c, hc⟩ : ∃ c, c = (i + j) / 2 := ⟨_, rfl⟩
      have c1 : i ≤ c := by omega
      have c2 : c < j := by omega
      have c3 : c < x.length := by omega
      have q0 : i + j ≤ 4611686018427387904 := by omega
      have q1 : c < 4611686018427387904 := by omega
      have eq : ∀ k, api_Cell_82.l0 (k + 1 + 3) x a i j = if cmpv (V x c) (V x a) < 0 then api_Cell_82.l0 (k + 3) x a (c + 1 : Nat) j else api_Cell_82.l0 (k + 3) x a i c := fun k => by
        rw [show k + 1 + 3 = (k + 3) + 1 by omega, api_Cell_82.l0, if_pos (Int.ofNat_lt.2 hij), half_eq q0, ← hc, if_pos (Int.natCast_nonneg _), if_pos (Int.ofNat_lt.2 c3), if_pos (Int.natCast_nonneg _), if_pos (Int.ofNat_lt.2 ha), rd_V, rd_V, byRows_eq _ _ (by omega), Option.bind_some, w64_succ q1]
      by_cases hlt : lt (V x c) (V x a)
      · obtain ⟨p, g1, g2, g3, g4, g5⟩ := ih (j - (c + 1)) (by omega) (c + 1) j rfl (by omega) (by omega) h3 (fun q hq1 hq2 => by
          by_cases e : q = c
          · subst e; exact hlt
          · by_cases e2 : q < i
            · exact h4 q hq1 e2
            · exact lt_of_le_lt (hs q c hq1 (by omega) (by omega)) hlt) h5
        refine ⟨p, g1, g2, g3, g4, fun r hr => ?_⟩
        obtain ⟨K, h⟩ := g5 r hr
        refine ⟨K + 4, fun k hk => ?_⟩
        obtain ⟨k, rfl⟩ : ∃ m, k = m + 1 + 3 := ⟨k - 4, by omega⟩
        exact (eq k).trans ((if_pos ((cmpv_neg _ _).2 hlt)).trans (h _ (by omega)))
      · obtain ⟨p, g1, g2, g3, g4, g5⟩ := ih (c - i) (by omega) i c rfl h1 c1 (by omega) h4 (fun q hq1 hq2 => by
          by_cases e : q = c
          · subst e; exact hlt
          · by_cases e2 : j ≤ q
            · exact h5 q e2 hq2
            · exact le_trans' hlt (hs c q (by omega) (by omega) hq2))
        refine ⟨p, g1, g2, g3, g4, fun r hr => ?_⟩
        obtain ⟨K, h⟩ := g5 r hr
        refine ⟨K + 4, fun k hk => ?_⟩
        obtain ⟨k, rfl⟩ : ∃ m, k = m + 1 + 3 := ⟨k - 4, by omega⟩
        exact (eq k).trans ((if_neg (fun h => hlt ((cmpv_neg _ _).1 h))).trans (h _ (by omega)))
    · obtain rfl : i = j := by omega
      refine ⟨i, h1, h3, h4, h5, ?_⟩
      rintro r ⟨K, h⟩
      refine ⟨K + 1, fun k hk => ?_⟩
      obtain ⟨k, rfl⟩ : ∃ m, k = m + 1 := ⟨k - 1, by omega⟩
      show api_Cell_82.l0 (k + 1) x a i i = _
      rw [api_Cell_82.l0, if_neg (fun h => hij (Int.ofNat_lt.1 h))]
      exact h k (by omega)
theorem move1 (e lo hi : Nat) (he : e < hi) : ∀ (d k : Nat) (x : List S61), k + d = e → lo ≤ k → hi ≤ x.length → x.length ≤ 2305843009213693000 →
    ∃ r, Ev (fun K => api_Cell_82.l1 K x (e + 1 : Nat) k) r ∧ Kp x r lo hi ∧ (∀ t, k ≤ t → t < e → V r t = V x (t + 1)) ∧ V r e = V x k ∧ ∀ p, (p < k ∨ e < p) → V r p = V x p := by
  intro d
  induction d with
  | zero =>
    intro k x hk h1 h2 h3
    have q1 : e + 1 ≤ 4611686018427387904 := by omega
    obtain rfl : k = e := by omega
    refine ⟨x, ⟨1, fun K hK => ?_⟩, Kp.refl _ _ _, fun t _ _ => by omega, rfl, fun _ _ => rfl⟩
    obtain ⟨K, rfl⟩ : ∃ m, K = m + 1 := ⟨K - 1, by omega⟩
    show api_Cell_82.l1 (K + 1) x (k + 1 : Nat) k = _
    rw [api_Cell_82.l1, show wrap64 (((k + 1 : Nat) : Int) - 1) = (k : Int) from w64_sub (a := k + 1) (b := 1) rfl q1, if_neg (Int.lt_irrefl _)]
  | succ d ih =>
    intro k x hk h1 h2 h3
    have q1 : e + 1 ≤ 4611686018427387904 := by omega
    have q2 : k < e := by omega
    have q3 : k + 1 < x.length := by omega
    have q4 : k < x.length := by omega
    have q5 : k < 4611686018427387904 := by omega
    have hsw : Kp x (sw x k (k + 1)) lo hi := Kp.sw q4 q3 (by omega) (by omega) (by omega) (by omega)
    have hv := V_sw q4 q3
    obtain ⟨r, ⟨K, g1⟩, g2, g3, g4, g5⟩ := ih (k + 1) (sw x k (k + 1)) (by omega) (by omega) (by rw [len_sw]; exact h2) (by rw [len_sw]; exact h3)
    have eq : ∀ n, api_Cell_82.l1 (n + 1) x (e + 1 : Nat) k = api_Cell_82.l1 n (sw x k (k + 1)) (e + 1 : Nat) (k + 1 : Nat) := fun n => by
      rw [api_Cell_82.l1, show wrap64 (((e + 1 : Nat) : Int) - 1) = (e : Int) from w64_sub (a := e + 1) (b := 1) rfl q1, if_pos (Int.ofNat_lt.2 q2), w64_succ q5, if_pos (Int.natCast_nonneg _), if_pos (Int.ofNat_lt.2 q3), if_pos (Int.natCast_nonneg _), if_pos (Int.ofNat_lt.2 q4), rd_V, rd_V]
      rfl
    refine ⟨r, ⟨K + 1, fun n hn => ?_⟩, hsw.trans g2, fun t ht1 ht2 => ?_, ?_, fun p hp => ?_⟩
    · obtain ⟨n, rfl⟩ : ∃ m, n = m + 1 := ⟨n - 1, by omega⟩
      exact (eq n).trans (g1 n (by omega))
    · by_cases c : t = k
      · subst c
        rw [g5 t (by omega), hv, if_neg (by omega), if_pos rfl]
      · rw [g3 t (by omega) ht2, hv, if_neg (by omega), if_neg (by omega)]
    · rw [g4, hv, if_pos rfl]
    · rw [g5 p (by omega), hv, if_neg (by omega), if_neg (by omega)]

/-! one element on the right -/
theorem find2 (x : List S61) (m lo hi : Nat) (hl : x.length ≤ 2305843009213693000) (ha : m < x.length) (hhi : hi ≤ x.length) (hs : So x lo hi) : ∀ (s i j : Nat), j - i = s → lo ≤ i → i ≤ j → j ≤ hi → (∀ q, lo ≤ q → q < i → ¬ lt (V x m) (V x q)) → (∀ q, j ≤ q → q < hi → lt (V x m) (V x q)) →
    ∃ p, lo ≤ p ∧ p ≤ hi ∧ (∀ q, lo ≤ q → q < p → ¬ lt (V x m) (V x q)) ∧ (∀ q, p ≤ q → q < hi → lt (V x m) (V x q)) ∧ ∀ r, Ev (fun k => api_Cell_82.l3 k x p m) r → Ev (fun k => api_Cell_82.l2 k x m i j) r := by
  intro s
  induction s using Nat.strongRecOn with
  | _ s ih =>
    intro i j hs' h1 h2 h3 h4 h5
    by_cases hij : i < j
    · obtain ⟨c, hc⟩ : ∃ c, c = (i + j) / 2 := ⟨_, rfl⟩
      have c1 : i ≤ c := by omega
      have c2 : c < j := by omega
      have c3 : c < x.length := by omega
      have q0 : i + j ≤ 4611686018427387904 := by omega
      have q1 : c < 4611686018427387904 := by omega
      have eq : ∀ k, api_Cell_82.l2 (k + 1 + 3) x m i j = if cmpv (V x m) (V x c) < 0 then api_Cell_82.l2 (k + 3) x m i c else api_Cell_82.l2 (k + 3) x m (c + 1 : Nat) j := fun k => by
        rw [show k + 1 + 3 = (k + 3) + 1 by omega, api_Cell_82.l2, if_pos (Int.ofNat_lt.2 hij), if_pos (Int.natCast_nonneg _), if_pos (Int.ofNat_lt.2 ha), half_eq q0, ← hc, if_pos (Int.natCast_nonneg _), if_pos (Int.ofNat_lt.2 c3), rd_V, rd_V, byRows_eq _ _ (by omega), Option.bind_some, w64_succ q1]
      by_cases hlt : lt (V x m) (V x c)
      · obtain ⟨p, g1, g2, g3, g4, g5⟩ := ih (c - i) (by omega) i c rfl h1 c1 (by omega) h4 (fun q hq1 hq2 => by
          by_cases e : q = c
          · subst e; exact hlt
          · by_cases e2 : j ≤ q
            · exact h5 q e2 hq2
            · exact lt_of_lt_le hlt (hs c q (by omega) (by omega) hq2))
        refine ⟨p, g1, g2, g3, g4, fun r hr => ?_⟩
        obtain ⟨K, h⟩ := g5 r hr
        refine ⟨K + 4, fun k hk => ?_⟩
        obtain ⟨k, rfl⟩ : ∃ m, k = m + 1 + 3 := ⟨k - 4, by omega⟩
        exact (eq k).trans ((if_pos ((cmpv_neg _ _).2 hlt)).trans (h _ (by omega)))
      · obtain ⟨p, g1, g2, g3, g4, g5⟩ := ih (j - (c + 1)) (by omega) (c + 1) j rfl (by omega) (by omega) h3 (fun q hq1 hq2 => by
          by_cases e : q = c
          · subst e; exact hlt
          · by_cases e2 : q < i
            · exact h4 q hq1 e2
            · exact le_trans' (hs q c hq1 (by omega) (by omega)) hlt) h5
        refine ⟨p, g1, g2, g3, g4, fun r hr => ?_⟩
        obtain ⟨K, h⟩ := g5 r hr
        refine ⟨K + 4, fun k hk => ?_⟩
        obtain ⟨k, rfl⟩ : ∃ m, k = m + 1 + 3 := ⟨k - 4, by omega⟩
        exact (eq k).trans ((if_neg (fun h => hlt ((cmpv_neg _ _).1 h))).trans (h _ (by omega)))
    · obtain rfl : i = j := by omega
      refine ⟨i, h1, h3, h4, h5, ?_⟩
      rintro r ⟨K, h⟩
      refine ⟨K + 1, fun k hk => ?_⟩
      obtain ⟨k, rfl⟩ : ∃ m, k = m + 1 := ⟨k - 1, by omega⟩
      show api_Cell_82.l2 (k + 1) x m i i = _
      rw [api_Cell_82.l2, if_neg (fun h => hij (Int.ofNat_lt.1 h))]
      exact h k (by omega)
theorem move2 (i lo hi : Nat) (hlo : lo ≤ i) : ∀ (d k : Nat) (x : List S61), i + d = k → k < hi → hi ≤ x.length → x.length ≤ 2305843009213693000 →
    ∃ r, Ev (fun K => api_Cell_82.l3 K x i k) r ∧ Kp x r lo hi ∧ (∀ t, i ≤ t → t < k → V r (t + 1) = V x t) ∧ V r i = V x k ∧ ∀ p, (p < i ∨ k < p) → V r p = V x p := by
  intro d
  induction d with
  | zero =>
    intro k x hk h1 h2 h3
    obtain rfl : i = k := by omega
    refine ⟨x, ⟨1, fun K hK => ?_⟩, Kp.refl _ _ _, fun t _ _ => by omega, rfl, fun _ _ => rfl⟩
    obtain ⟨K, rfl⟩ : ∃ m, K = m + 1 := ⟨K - 1, by omega⟩
    show api_Cell_82.l3 (K + 1) x i i = _
    rw [api_Cell_82.l3, if_neg (Int.lt_irrefl _)]
  | succ d ih =>
    intro k x hk h1 h2 h3
    obtain ⟨j, rfl⟩ : ∃ j, k = j + 1 := ⟨k - 1, by omega⟩
    have q1 : j + 1 ≤ 4611686018427387904 := by omega
    have q2 : i < j + 1 := by omega
    have q3 : j + 1 < x.length := by omega
    have q4 : j < x.length := by omega
    have hsw : Kp x (sw x (j + 1) j) lo hi := Kp.sw q3 q4 (by omega) (by omega) (by omega) (by omega)
    have hv := V_sw q3 q4
    obtain ⟨r, ⟨K, g1⟩, g2, g3, g4, g5⟩ := ih j (sw x (j + 1) j) (by omega) (by omega) (by rw [len_sw]; exact h2) (by rw [len_sw]; exact h3)
    have eq : ∀ n, api_Cell_82.l3 (n + 1) x i (j + 1 : Nat) = api_Cell_82.l3 n (sw x (j + 1) j) i j := fun n => by
      rw [api_Cell_82.l3, if_pos (Int.ofNat_lt.2 q2), show wrap64 (((j + 1 : Nat) : Int) - 1) = (j : Int) from w64_sub (a := j + 1) (b := 1) rfl q1, if_pos (Int.natCast_nonneg _), if_pos (Int.ofNat_lt.2 q4), if_pos (Int.natCast_nonneg _), if_pos (Int.ofNat_lt.2 q3), rd_V, rd_V]
      rfl
    refine ⟨r, ⟨K + 1, fun n hn => ?_⟩, hsw.trans g2, fun t ht1 ht2 => ?_, ?_, fun p hp => ?_⟩
    · obtain ⟨n, rfl⟩ : ∃ m, n = m + 1 := ⟨n - 1, by omega⟩
      exact (eq n).trans (g1 n (by omega))
    · by_cases c : t = j
      · subst c
        rw [g5 (t + 1) (by omega), hv, if_neg (by omega), if_pos rfl]
      · rw [g3 t ht1 (by omega), hv, if_neg (by omega), if_neg (by omega)]
    · rw [g4, hv, if_pos rfl]
    · rw [g5 p (by omega), hv, if_neg (by omega), if_neg (by omega)]

/-! the cut -/
theorem cut_ev (x : List S61) (a m b mid p : Nat) (hl : x.length ≤ 2305843009213693000) (hb : b ≤ x.length) (hp : p + 1 = mid + m) (s0 r0 : Nat) (hr : ∀ q, s0 ≤ q → q < r0 → q < m ∧ m + q ≤ p ∧ p < b + q ∧ a ≤ q) (hs1 : So x a m) (hs2 : So x m b) (hmid : mid ≤ b) (hm : m ≤ b) : ∀ (d i j : Nat), j - i = d → s0 ≤ i → i ≤ j → j ≤ r0 → (∀ q, s0 ≤ q → q < i → ¬ lt (V x (p - q)) (V x q)) → (∀ q, j ≤ q → q < r0 → lt (V x (p - q)) (V x q)) →
    ∃ s, s0 ≤ s ∧ s ≤ r0 ∧ (∀ q, s0 ≤ q → q < s → ¬ lt (V x (p - q)) (V x q)) ∧ (∀ q, s ≤ q → q < r0 → lt (V x (p - q)) (V x q)) ∧ ∀ r, (Ev (fun k => if (s : Int) < m then api_Cell_82.j6 k x a m b mid s (wrap64 (((mid + m : Nat) : Int) - s)) (decide ((m : Int) < wrap64 (((mid + m : Nat) : Int) - s))) else api_Cell_82.j6 k x a m b mid s (wrap64 (((mid + m : Nat) : Int) - s)) false) r) → Ev (fun k => api_Cell_82.l4 k x a m b mid (mid + m : Nat) i j p) r := by
  intro d
  induction d using Nat.strongRecOn with
  | _ d ih =>
    intro i j hd h1 h2 h3 h4 h5
    by_cases hij : i < j
    · obtain ⟨c, hc⟩ : ∃ c, c = (i + j) / 2 := ⟨_, rfl⟩
      have c1 : i ≤ c := by omega
      have c2 : c < j := by omega
      obtain ⟨k1, k2, k3, k4⟩ := hr c (by omega) (by omega)
      have q0 : i + j ≤ 4611686018427387904 := by
        obtain ⟨k1', _, _, _⟩ := hr (j - 1) (by omega) (by omega)
        omega
      have q1 : c < 4611686018427387904 := by omega
      have q2 : p - c + c = p := by omega
      have q3 : p ≤ 4611686018427387904 := by omega
      have q4 : p - c < x.length := by omega
      have q5 : c < x.length := by omega
      have eq : ∀ k, api_Cell_82.l4 (k + 1 + 3) x a m b mid (mid + m : Nat) i j p = if cmpv (V x (p - c)) (V x c) < 0 then api_Cell_82.l4 (k + 3) x a m b mid (mid + m : Nat) i c p else api_Cell_82.l4 (k + 3) x a m b mid (mid + m : Nat) (c + 1 : Nat) j p := fun k => by
        rw [show k + 1 + 3 = (k + 3) + 1 by omega, api_Cell_82.l4, if_pos (Int.ofNat_lt.2 hij), half_eq q0, ← hc, w64_sub q2 q3, if_pos (Int.natCast_nonneg _), if_pos (Int.ofNat_lt.2 q4), if_pos (Int.natCast_nonneg _), if_pos (Int.ofNat_lt.2 q5), rd_V, rd_V, byRows_eq _ _ (by omega), Option.bind_some, w64_succ q1]
      by_cases hlt : lt (V x (p - c)) (V x c)
      · obtain ⟨s, g1, g2, g3, g4, g5⟩ := ih (c - i) (by omega) i c rfl h1 c1 (by omega) h4 (fun q hq1 hq2 => by
          by_cases e : q = c
          · subst e; exact hlt
          · obtain ⟨z1, z2, z3, z4⟩ := hr q (by omega) hq2
            have f1 := hs1 c q (by omega) (by omega) z1
            have f2 := hs2 (p - q) (p - c) (by omega) (by omega) (by omega)
            exact lt_of_le_lt f2 (lt_of_lt_le hlt f1))
        refine ⟨s, g1, g2, g3, g4, fun r hr => ?_⟩
        obtain ⟨K, h⟩ := g5 r hr
        refine ⟨K + 4, fun k hk => ?_⟩
        obtain ⟨k, rfl⟩ : ∃ m, k = m + 1 + 3 := ⟨k - 4, by omega⟩
        exact (eq k).trans ((if_pos ((cmpv_neg _ _).2 hlt)).trans (h _ (by omega)))
      · obtain ⟨s, g1, g2, g3, g4, g5⟩ := ih (j - (c + 1)) (by omega) (c + 1) j rfl (by omega) (by omega) h3 (fun q hq1 hq2 => by
          by_cases e : q = c
          · subst e; exact hlt
          · obtain ⟨z1, z2, z3, z4⟩ := hr q hq1 (by omega)
            have f1 := hs1 q c (by omega) (by omega) k1
            have f2 := hs2 (p - c) (p - q) (by omega) (by omega) (by omega)
            exact fun hh => hlt (lt_of_le_lt f2 (lt_of_lt_le hh f1))) h5
        refine ⟨s, g1, g2, g3, g4, fun r hr => ?_⟩
        obtain ⟨K, h⟩ := g5 r hr
        refine ⟨K + 4, fun k hk => ?_⟩
        obtain ⟨k, rfl⟩ : ∃ m, k = m + 1 + 3 := ⟨k - 4, by omega⟩
        exact (eq k).trans ((if_neg (fun h => hlt ((cmpv_neg _ _).1 h))).trans (h _ (by omega)))
    · obtain rfl : i = j := by omega
      refine ⟨i, h1, h3, h4, h5, ?_⟩
      rintro r ⟨K, h⟩
      refine ⟨K + 1, fun k hk => ?_⟩
      obtain ⟨k, rfl⟩ : ∃ m, k = m + 1 := ⟨k - 1, by omega⟩
      show api_Cell_82.l4 (k + 1) x a m b mid (mid + m : Nat) i i p = _
      rw [api_Cell_82.l4, if_neg (fun h => hij (Int.ofNat_lt.1 h))]
      exact h k (by omega)
end Go.Proofs.Ytocijdlbpablkaa.Sb
/- The stable sort of the shapes' cells, on lists: what comes out is the list, sorted. -/
namespace Go.Proofs.Ytocijdlbpablkaa.Sb
open Go.RowKit Go.Proofs.YtocijdlbpablkaaW.PrintWords
set_option linter.unusedVariables false

/-- What lies between the halves' exchange and their merging. -/
structure Pc (y : List S61) (a s mid e b : Nat) : Prop where
  s1 : So y a s
  s2 : So y s mid
  s3 : So y mid e
  s4 : So y e b
  cr : ∀ i j, a ≤ i → i < mid → mid ≤ j → j < b → ¬ lt (V y j) (V y i)
theorem le_refl' (a : S61) : ¬ lt a a := lt_irrefl a
theorem So.le {x : List S61} {a b i j : Nat} (h : So x a b) (h1 : a ≤ i) (h2 : i ≤ j) (h3 : j < b) : ¬ lt (V x j) (V x i) := by
  rcases Nat.lt_or_ge i j with h4 | h4
  · exact h i j h1 h4 h3
  · obtain rfl : i = j := by omega
    exact lt_irrefl _
theorem pieces {x y : List S61} {a s m mid e b : Nat} (h1 : a ≤ s) (h2 : s ≤ m) (h3 : s ≤ mid) (h4 : mid ≤ e) (h5 : m ≤ e) (h6 : e ≤ b) (he : e + s = mid + m) (hs1 : So x a m) (hs2 : So x m b)
    (c1 : s < m → m < e → lt (V x (e - 1)) (V x s)) (c2 : a < s → e < b → ¬ lt (V x e) (V x (s - 1)))
    (y1 : ∀ t, s + t < mid → V y (s + t) = V x (m + t)) (y2 : ∀ t, mid + t < e → V y (mid + t) = V x (s + t)) (y3 : ∀ p, (p < s ∨ e ≤ p) → V y p = V x p) : Pc y a s mid e b where
  s1 i j g1 g2 g3 := by
    rw [y3 i (by omega), y3 j (by omega)]
    exact hs1 i j g1 g2 (by omega)
  s2 i j g1 g2 g3 := by
    obtain ⟨t, rfl⟩ : ∃ t, i = s + t := ⟨i - s, by omega⟩
    obtain ⟨u, rfl⟩ : ∃ u, j = s + u := ⟨j - s, by omega⟩
    rw [y1 t (by omega), y1 u g3]
    exact hs2 _ _ (by omega) (by omega) (by omega)
  s3 i j g1 g2 g3 := by
    obtain ⟨t, rfl⟩ : ∃ t, i = mid + t := ⟨i - mid, by omega⟩
    obtain ⟨u, rfl⟩ : ∃ u, j = mid + u := ⟨j - mid, by omega⟩
    rw [y2 t (by omega), y2 u g3]
    exact hs1 _ _ (by omega) (by omega) (by omega)
  s4 i j g1 g2 g3 := by
    rw [y3 i (by omega), y3 j (by omega)]
    exact hs2 i j (by omega) g2 g3
  cr i j g1 g2 g3 g4 := by
    by_cases hi : i < s
    · rw [y3 i (.inl hi)]
      by_cases hj : j < e
      · obtain ⟨u, rfl⟩ : ∃ u, j = mid + u := ⟨j - mid, by omega⟩
        rw [y2 u hj]
        exact hs1 _ _ g1 (by omega) (by omega)
      · rw [y3 j (by omega)]
        have f1 := hs1.le g1 (show i ≤ s - 1 by omega) (by omega)
        have f2 := c2 (by omega) (by omega)
        have f3 := hs2.le h5 (show e ≤ j by omega) g4
        exact le_trans' (le_trans' f1 f2) f3
    · obtain ⟨t, rfl⟩ : ∃ t, i = s + t := ⟨i - s, by omega⟩
      rw [y1 t g2]
      by_cases hj : j < e
      · obtain ⟨u, rfl⟩ : ∃ u, j = mid + u := ⟨j - mid, by omega⟩
        rw [y2 u hj]
        have f1 := hs2.le (show m ≤ m + t by omega) (show m + t ≤ e - 1 by omega) (by omega)
        have f2 := c1 (by omega) (by omega)
        have f3 := hs1.le h1 (show s ≤ s + u by omega) (by omega)
        exact le_trans' (le_trans' f1 (lt_asymm f2)) f3
      · rw [y3 j (by omega)]
        exact hs2 _ _ (by omega) (by omega) g4

def Sym (n : Nat) : Prop := ∀ (x : List S61) (a m b : Nat), b - a < n → a < m → m < b → b ≤ x.length → x.length ≤ 2305843009213693000 → So x a m → So x m b → ∃ r, Ev (fun k => api_Cell_82.f k x a m b) r ∧ Kp x r a b ∧ So r a b
theorem join_ev {x : List S61} {a s m : Nat} {n : Nat} (ih : Sym n) (hn : m - a < n) (h1 : a ≤ s) (h2 : s ≤ m) (hb : m ≤ x.length) (hl : x.length ≤ 2305843009213693000) (hs1 : So x a s) (hs2 : So x s m) :
    ∃ z, Kp x z a m ∧ So z a m ∧ ((a < s ∧ s < m ∧ Ev (fun k => api_Cell_82.f k x a s m) z) ∨ (¬ (a < s ∧ s < m) ∧ z = x)) := by
  by_cases h : a < s ∧ s < m
  · obtain ⟨z, g1, g2, g3⟩ := ih x a s m hn h.1 h.2 hb hl hs1 hs2
    exact ⟨z, g2, g3, .inl ⟨h.1, h.2, g1⟩⟩
  · refine ⟨x, Kp.refl _ _ _, ?_, .inr ⟨h, rfl⟩⟩
    rcases Nat.eq_or_lt_of_le h1 with e | e
    · subst e; exact hs2
    · obtain rfl : s = m := by omega
      exact hs1
theorem last_ev {y : List S61} {a s mid e b n : Nat} (ih : Sym n) (hn : mid - a < n) (hn' : b - mid < n) (h1 : a ≤ s) (h2 : s ≤ mid) (h3 : mid ≤ e) (h4 : e ≤ b) (hb : b ≤ y.length) (hl : y.length ≤ 2305843009213693000) (hp : Pc y a s mid e b) :
    ∃ r, Ev (fun k => api_Cell_82.j7 k y a b mid s e) r ∧ Kp y r a b ∧ So r a b := by
  obtain ⟨z, k1, o1, f1⟩ := join_ev ih hn h1 h2 (by omega) hl hp.s1 hp.s2
  have lz : z.length = y.length := k1.len
  have s3 : So z mid e := fun i j g1 g2 g3 => by rw [k1.out i (by omega), k1.out j (by omega)]; exact hp.s3 i j g1 g2 g3
  have s4 : So z e b := fun i j g1 g2 g3 => by rw [k1.out i (by omega), k1.out j (by omega)]; exact hp.s4 i j g1 g2 g3
  obtain ⟨w, k2, o2, f2⟩ := join_ev ih hn' h3 h4 (by rw [lz]; exact hb) (by rw [lz]; exact hl) s3 s4
  have kz : Kp y z a b := k1.widen (Nat.le_refl _) (by omega)
  have kw : Kp z w a b := k2.widen (by omega) (Nat.le_refl _)
  refine ⟨w, ?_, kz.trans kw, fun i j g1 g2 g3 => ?_⟩
  · -- the two calls
    have hw : ∃ K, ∀ k, K ≤ k → (if (mid : Int) < e then (if (e : Int) < b then ((api_Cell_82.f k z mid e b).bind fun t174 => (some t174)) else (some z)) else (some z)) = some w := by
      rcases f2 with ⟨q1, q2, K, q3⟩ | ⟨q1, rfl⟩
      · refine ⟨K, fun k hk => ?_⟩
        rw [if_pos (Int.ofNat_lt.2 q1), if_pos (Int.ofNat_lt.2 q2), show api_Cell_82.f k z mid e b = some w from q3 k hk, Option.bind_some]
      · refine ⟨0, fun k hk => ?_⟩
        by_cases c1 : mid < e
        · rw [if_pos (Int.ofNat_lt.2 c1), if_neg (fun h => q1 ⟨c1, Int.ofNat_lt.1 h⟩)]
        · rw [if_neg (fun h => c1 (Int.ofNat_lt.1 h))]
    obtain ⟨K, hw⟩ := hw
    have hj : ∃ K, ∀ k, K ≤ k → api_Cell_82.j8 (k + 1) y a b mid s e (decide (a < s ∧ s < mid)) = some w := by
      rcases f1 with ⟨q1, q2, K', q3⟩ | ⟨q1, rfl⟩
      · refine ⟨K + K', fun k hk => ?_⟩
        rw [api_Cell_82.j8, decide_eq_true ⟨q1, q2⟩, if_pos rfl, show api_Cell_82.f k y a s mid = some z from q3 k (by omega), Option.bind_some]
        exact hw k (by omega)
      · refine ⟨K, fun k hk => ?_⟩
        rw [api_Cell_82.j8, decide_eq_false q1, if_neg (by decide)]
        exact hw k hk
    obtain ⟨K2, hj⟩ := hj
    refine ⟨K2 + 2, fun k hk => ?_⟩
    obtain ⟨k, rfl⟩ : ∃ m, k = m + 1 + 1 := ⟨k - 2, by omega⟩
    have := hj k (by omega)
    show api_Cell_82.j7 (k + 1 + 1) y a b mid s e = _
    rw [api_Cell_82.j7]
    by_cases c1 : a < s
    · rw [if_pos (Int.ofNat_lt.2 c1)]
      by_cases c2 : s < mid
      · rw [decide_eq_true (Int.ofNat_lt.2 c2)]
        rwa [decide_eq_true ⟨c1, c2⟩] at this
      · rw [decide_eq_false (fun h => c2 (Int.ofNat_lt.1 h))]
        rwa [decide_eq_false (fun h => c2 h.2)] at this
    · rw [if_neg (fun h => c1 (Int.ofNat_lt.1 h))]
      rwa [decide_eq_false (fun h => c1 h.1)] at this
  · by_cases hj : j < mid
    · rw [k2.out i (by omega), k2.out j (by omega)]
      exact o1 i j g1 g2 hj
    · by_cases hi : mid ≤ i
      · exact o2 i j hi g2 g3
      · rw [k2.out i (by omega)]
        obtain ⟨i', p1, p2, p3⟩ := k1.ins i g1 (by omega)
        obtain ⟨j', p4, p5, p6⟩ := k2.ins j (by omega) g3
        rw [p3, p6, k1.out j' (by omega)]
        exact hp.cr i' j' p1 p2 p4 p5

theorem sym1 {x : List S61} {a b : Nat} (h2 : a + 1 < b) (hb : b ≤ x.length) (hl : x.length ≤ 2305843009213693000) (hs2 : So x (a + 1) b) : ∃ r, Ev (fun k => api_Cell_82.f k x a (a + 1 : Nat) b) r ∧ Kp x r a b ∧ So r a b := by
  obtain ⟨p, g1, g2, g3, g4, g5⟩ := find1 x a (a + 1) b hl (by omega) hb hs2 (b - (a + 1)) (a + 1) b rfl (Nat.le_refl _) (by omega) (Nat.le_refl _) (fun q _ _ => by omega) (fun q _ _ => by omega)
  obtain ⟨e, rfl⟩ : ∃ e, p = e + 1 := ⟨p - 1, by omega⟩
  obtain ⟨r, f1, f2, f3, f4, f5⟩ := move1 e a b (by omega) (e - a) a x (by omega) (Nat.le_refl _) hb hl
  obtain ⟨K, h⟩ := g5 r f1
  have q1 : a + 1 ≤ 4611686018427387904 := by omega
  refine ⟨r, ⟨K + 1, fun k hk => ?_⟩, f2, fun i j c1 c2 c3 => ?_⟩
  · obtain ⟨k, rfl⟩ : ∃ m, k = m + 1 := ⟨k - 1, by omega⟩
    show api_Cell_82.f (k + 1) x a (a + 1 : Nat) b = _
    rw [api_Cell_82.f, show wrap64 (((a + 1 : Nat) : Int) - a) = (1 : Int) from w64_sub (a := a + 1) (b := a) (c := 1) (by omega) q1, if_pos rfl]
    exact h k (by omega)
  · rcases Nat.lt_trichotomy j e with d | d | d
    · rw [f3 i c1 (by omega), f3 j (by omega) d]
      exact hs2 _ _ (by omega) (by omega) (by omega)
    · subst d
      rw [f4, f3 i c1 c2]
      exact lt_asymm (g3 _ (by omega) (by omega))
    · rw [f5 j (.inr d)]
      rcases Nat.lt_trichotomy i e with d' | d' | d'
      · rw [f3 i c1 d']
        exact hs2 _ _ (by omega) (by omega) c3
      · subst d'
        rw [f4]
        exact g4 j (by omega) c3
      · rw [f5 i (.inr d')]
        exact hs2 _ _ (by omega) c2 c3
theorem sym2 {x : List S61} {a m : Nat} (h1 : a < m) (h0 : a + 1 ≠ m) (hb : m + 1 ≤ x.length) (hl : x.length ≤ 2305843009213693000) (hs1 : So x a m) : ∃ r, Ev (fun k => api_Cell_82.f k x a m (m + 1 : Nat)) r ∧ Kp x r a (m + 1) ∧ So r a (m + 1) := by
  obtain ⟨p, g1, g2, g3, g4, g5⟩ := find2 x m a m hl (by omega) (by omega) hs1 (m - a) a m rfl (Nat.le_refl _) (by omega) (Nat.le_refl _) (fun q _ _ => by omega) (fun q _ _ => by omega)
  obtain ⟨r, f1, f2, f3, f4, f5⟩ := move2 p a (m + 1) g1 (m - p) m x (by omega) (by omega) hb hl
  obtain ⟨K, h⟩ := g5 r f1
  have q1 : m + 1 ≤ 4611686018427387904 := by omega
  have q2 : m - a + a = m := by omega
  have q3 : m ≤ 4611686018427387904 := by omega
  have q4 : ((m - a : Nat) : Int) ≠ 1 := by omega
  refine ⟨r, ⟨K + 1, fun k hk => ?_⟩, f2, fun i j c1 c2 c3 => ?_⟩
  · obtain ⟨k, rfl⟩ : ∃ m, k = m + 1 := ⟨k - 1, by omega⟩
    show api_Cell_82.f (k + 1) x a m (m + 1 : Nat) = _
    rw [api_Cell_82.f, w64_sub q2 q3, if_neg q4, show wrap64 (((m + 1 : Nat) : Int) - m) = (1 : Int) from w64_sub (a := m + 1) (b := m) (c := 1) (by omega) q1, if_pos rfl]
    exact h k (by omega)
  · rcases Nat.lt_trichotomy j p with d | d | d
    · rw [f5 i (.inl (by omega)), f5 j (.inl d)]
      exact hs1 _ _ c1 c2 (by omega)
    · subst d
      rw [f4, f5 i (.inl c2)]
      exact g3 i c1 c2
    · obtain ⟨t, rfl⟩ : ∃ t, j = t + 1 := ⟨j - 1, by omega⟩
      rw [f3 t (by omega) (by omega)]
      rcases Nat.lt_trichotomy i p with d' | d' | d'
      · rw [f5 i (.inl d')]
        exact hs1 _ _ c1 (by omega) (by omega)
      · subst d'
        rw [f4]
        exact lt_asymm (g4 t (by omega) (by omega))
      · obtain ⟨u, rfl⟩ : ∃ u, i = u + 1 := ⟨i - 1, by omega⟩
        rw [f3 u (by omega) (by omega)]
        exact hs1 _ _ (by omega) (by omega) (by omega)

/-- Behind the cut: the exchange, if one is due, and the two merges. -/
theorem rest_ev {x : List S61} {a s m mid e b n : Nat} (ih : Sym n) (hn : mid - a < n) (hn' : b - mid < n) (h1 : a ≤ s) (h2 : s ≤ m) (h3 : s ≤ mid) (h4 : mid ≤ e) (h5 : m ≤ e) (h6 : e ≤ b) (he : e + s = mid + m) (hb : b ≤ x.length) (hl : x.length ≤ 2305843009213693000) (hs1 : So x a m) (hs2 : So x m b)
    (c1 : s < m → m < e → lt (V x (e - 1)) (V x s)) (c2 : a < s → e < b → ¬ lt (V x e) (V x (s - 1))) :
    ∃ r, Ev (fun k => if (s : Int) < m then api_Cell_82.j6 k x a m b mid s (wrap64 (((mid + m : Nat) : Int) - s)) (decide ((m : Int) < wrap64 (((mid + m : Nat) : Int) - s))) else api_Cell_82.j6 k x a m b mid s (wrap64 (((mid + m : Nat) : Int) - s)) false) r ∧ Kp x r a b ∧ So r a b := by
  have q1 : mid + m ≤ 4611686018427387904 := by omega
  have ew := w64_sub he q1
  rw [ew]
  clear ew
  by_cases hr : s < m ∧ m < e
  · obtain ⟨i, hi⟩ : ∃ i, m = s + i := ⟨m - s, by omega⟩
    obtain ⟨j, hj⟩ : ∃ j, e = s + i + j := ⟨e - m, by omega⟩
    obtain ⟨y, ⟨K, g1⟩, g2, g3⟩ := rotate_ev x s i j (by omega) (by omega) (by omega) (by omega)
    have ly : y.length = x.length := g2.len
    have ky : Kp x y a b := g2.widen h1 (by omega)
    obtain ⟨r, ⟨K', f1⟩, f2, f3⟩ := last_ev (y := y) (a := a) (s := s) (mid := mid) (e := e) (b := b) ih hn hn' h1 h3 h4 h6 (by rw [ly]; exact hb) (by rw [ly]; exact hl)
      (pieces h1 h2 h3 h4 h5 h6 he hs1 hs2 c1 c2 (fun t ht => by rw [g3.lf t (by omega), hi]) (fun t ht => by rw [show mid + t = s + j + t by omega, g3.rg t (by omega)]) (fun p hp => g3.ot p (by omega)))
    refine ⟨r, ⟨K + K' + 1, fun k hk => ?_⟩, ky.trans f2, f3⟩
    obtain ⟨k, rfl⟩ : ∃ m, k = m + 1 := ⟨k - 1, by omega⟩
    show (if (s : Int) < m then api_Cell_82.j6 (k + 1) x a m b mid s e (decide ((m : Int) < e)) else api_Cell_82.j6 (k + 1) x a m b mid s e false) = some r
    have g1' : api_Cell_83.f k x s m e = some y := by rw [hi, hj]; exact g1 k (by omega)
    rw [if_pos (Int.ofNat_lt.2 hr.1), decide_eq_true (Int.ofNat_lt.2 hr.2), api_Cell_82.j6, if_pos rfl, g1', Option.bind_some]
    exact f1 k (by omega)
  · obtain ⟨r, ⟨K', f1⟩, f2, f3⟩ := last_ev (y := x) (a := a) (s := s) (mid := mid) (e := e) (b := b) ih hn hn' h1 h3 h4 h6 hb hl
      (pieces h1 h2 h3 h4 h5 h6 he hs1 hs2 c1 c2 (fun t ht => by congr 1; omega) (fun t ht => by congr 1; omega) (fun p hp => rfl))
    refine ⟨r, ⟨K' + 1, fun k hk => ?_⟩, f2, f3⟩
    obtain ⟨k, rfl⟩ : ∃ m, k = m + 1 := ⟨k - 1, by omega⟩
    show (if (s : Int) < m then api_Cell_82.j6 (k + 1) x a m b mid s e (decide ((m : Int) < e)) else api_Cell_82.j6 (k + 1) x a m b mid s e false) = some r
    have h7 := f1 k (by omega)
    by_cases c : s < m
    · rw [if_pos (Int.ofNat_lt.2 c), decide_eq_false (fun h => hr ⟨c, Int.ofNat_lt.1 h⟩), api_Cell_82.j6, if_neg (by decide)]
      exact h7
    · rw [if_neg (fun h => c (Int.ofNat_lt.1 h)), api_Cell_82.j6, if_neg (by decide)]
      exact h7
theorem sym_step {n : Nat} (ih : Sym n) : Sym (n + 1) := by
  intro x a m b hn h1 h2 hb hl hs1 hs2
  by_cases c1 : a + 1 = m
  · subst c1; exact sym1 h2 hb hl hs2
  by_cases c2 : m + 1 = b
  · subst c2; exact sym2 h1 c1 hb hl hs1
  obtain ⟨mid, hmid⟩ : ∃ c, c = (a + b) / 2 := ⟨_, rfl⟩
  obtain ⟨p, hp⟩ : ∃ p, p + 1 = mid + m := ⟨mid + m - 1, by omega⟩
  have q0 : a + b ≤ 4611686018427387904 := by omega
  have q1 : m - a + a = m := by omega
  have q2 : m ≤ 4611686018427387904 := by omega
  have q3 : ((m - a : Nat) : Int) ≠ 1 := by omega
  have q4 : b - m + m = b := by omega
  have q5 : b ≤ 4611686018427387904 := by omega
  have q6 : ((b - m : Nat) : Int) ≠ 1 := by omega
  have q7 : mid + m ≤ 4611686018427387904 := by omega
  have q8 : p + 1 ≤ 4611686018427387904 := by omega
  by_cases hm : mid < m
  · obtain ⟨s0, hs0⟩ : ∃ s0, s0 + b = mid + m := ⟨mid + m - b, by omega⟩
    obtain ⟨s, g1, g2, g3, g4, g5⟩ := cut_ev x a m b mid p hl hb hp s0 mid (fun q z1 z2 => ⟨by omega, by omega, by omega, by omega⟩) hs1 hs2 (by omega) (by omega) (mid - s0) s0 mid rfl (Nat.le_refl _) (by omega) (Nat.le_refl _) (fun q _ _ => by omega) (fun q _ _ => by omega)
    obtain ⟨r, f1, f2, f3⟩ := rest_ev (x := x) (a := a) (s := s) (m := m) (mid := mid) (e := mid + m - s) (b := b) ih (by omega) (by omega) (by omega) (by omega) (by omega) (by omega) (by omega) (by omega) (by omega) hb hl hs1 hs2
      (fun z1 z2 => by have := g4 s (Nat.le_refl _) (by omega); rwa [show p - s = mid + m - s - 1 by omega] at this)
      (fun z1 z2 => by have := g3 (s - 1) (by omega) (by omega); rwa [show p - (s - 1) = mid + m - s by omega] at this)
    obtain ⟨K, h⟩ := g5 r f1
    refine ⟨r, ⟨K + 2, fun k hk => ?_⟩, f2, f3⟩
    obtain ⟨k, rfl⟩ : ∃ m, k = m + 1 + 1 := ⟨k - 2, by omega⟩
    show api_Cell_82.f (k + 1 + 1) x a m b = _
    rw [api_Cell_82.f, w64_sub q1 q2, if_neg q3, w64_sub q4 q5, if_neg q6, half_eq q0, ← hmid, if_pos (Int.ofNat_lt.2 hm), w64_add (a := mid) (b := m) rfl q7, w64_sub hs0 q7, api_Cell_82.j4, show wrap64 (((mid + m : Nat) : Int) - 1) = (p : Int) by rw [← hp]; exact w64_sub (a := p + 1) (b := 1) rfl q8]
    exact h k (by omega)
  · obtain ⟨s, g1, g2, g3, g4, g5⟩ := cut_ev x a m b mid p hl hb hp a m (fun q z1 z2 => ⟨by omega, by omega, by omega, by omega⟩) hs1 hs2 (by omega) (by omega) (m - a) a m rfl (Nat.le_refl _) (by omega) (Nat.le_refl _) (fun q _ _ => by omega) (fun q _ _ => by omega)
    obtain ⟨r, f1, f2, f3⟩ := rest_ev (x := x) (a := a) (s := s) (m := m) (mid := mid) (e := mid + m - s) (b := b) ih (by omega) (by omega) (by omega) (by omega) (by omega) (by omega) (by omega) (by omega) (by omega) hb hl hs1 hs2
      (fun z1 z2 => by have := g4 s (Nat.le_refl _) (by omega); rwa [show p - s = mid + m - s - 1 by omega] at this)
      (fun z1 z2 => by have := g3 (s - 1) (by omega) (by omega); rwa [show p - (s - 1) = mid + m - s by omega] at this)
    obtain ⟨K, h⟩ := g5 r f1
    refine ⟨r, ⟨K + 2, fun k hk => ?_⟩, f2, f3⟩
    obtain ⟨k, rfl⟩ : ∃ m, k = m + 1 + 1 := ⟨k - 2, by omega⟩
    show api_Cell_82.f (k + 1 + 1) x a m b = _
    rw [api_Cell_82.f, w64_sub q1 q2, if_neg q3, w64_sub q4 q5, if_neg q6, half_eq q0, ← hmid, if_neg (fun h => hm (Int.ofNat_lt.1 h)), w64_add (a := mid) (b := m) rfl q7, api_Cell_82.j4, show wrap64 (((mid + m : Nat) : Int) - 1) = (p : Int) by rw [← hp]; exact w64_sub (a := p + 1) (b := 1) rfl q8]
    exact h k (by omega)
theorem sym_all : ∀ n, Sym n
  | 0 => fun x a m b h => absurd h (Nat.not_lt_zero _)
  | n + 1 => sym_step (sym_all n)
/-- The merge of two sorted neighbours. -/
theorem merge_ev (x : List S61) (a m b : Nat) (h1 : a < m) (h2 : m < b) (hb : b ≤ x.length) (hl : x.length ≤ 2305843009213693000) (hs1 : So x a m) (hs2 : So x m b) : ∃ r, Ev (fun k => api_Cell_82.f k x a m b) r ∧ Kp x r a b ∧ So r a b :=
  sym_all (b - a + 1) x a m b (Nat.lt_succ_self _) h1 h2 hb hl hs1 hs2
end Go.Proofs.Ytocijdlbpablkaa.Sb
/- The stable sort of the shapes' cells, and the document's sort: each gives the list in order; of cells at places of their own there is one such list. -/
namespace Go.Proofs.Ytocijdlbpablkaa.Sb
open Go.RowKit Go.Proofs.YtocijdlbpablkaaW.PrintWords
set_option linter.unusedVariables false

/-- From c on the blocks of bs places are sorted, each in itself. -/
inductive Blk (x : List S61) (bs n : Nat) : Nat → Prop
  | done {c : Nat} (h : n ≤ c) : Blk x bs n c
  | step {c : Nat} (h : So x c (min (c + bs) n)) (t : Blk x bs n (c + bs)) : Blk x bs n c
theorem So.same {x y : List S61} {a b : Nat} (h : So x a b) (hv : ∀ i, a ≤ i → i < b → V y i = V x i) : So y a b := fun i j h1 h2 h3 => by
  rw [hv i h1 (by omega), hv j (by omega) h3]
  exact h i j h1 h2 h3
theorem Blk.same {x y : List S61} {bs n c : Nat} (h : Blk x bs n c) : (∀ i, c ≤ i → i < n → V y i = V x i) → Blk y bs n c := by
  induction h with
  | done h => exact fun _ => .done h
  | step h t ih =>
    intro hv
    exact .step (h.same fun i h1 h2 => hv i h1 (by omega)) (ih fun i h1 h2 => hv i (by omega) h2)
theorem blocks_ev (n : Nat) : ∀ (d c : Nat) (x : List S61), n - c = d → c ≤ n → n ≤ x.length → x.length ≤ 100000000000000000 →
    ∃ y, Kp x y c n ∧ Blk y 20 n c ∧ ∀ r, Ev (fun k => api_Cell_78.l1 k y n 20) r → Ev (fun k => api_Cell_78.l0 k x n 20 c (c + 20 : Nat)) r := by
  intro d
  induction d using Nat.strongRecOn with
  | _ d ih =>
    intro c x hd hc hn hl
    by_cases h20 : c + 20 ≤ n
    · obtain ⟨x1, ⟨K1, g1⟩, g2, g3⟩ := insert_ev x c (c + 20) (by omega) (by omega) (by omega)
      have l1 : x1.length = x.length := g2.len
      obtain ⟨y, f1, f2, f3⟩ := ih (n - (c + 20)) (by omega) (c + 20) x1 rfl h20 (by omega) (by omega)
      have q1 : c + 20 + 20 ≤ 4611686018427387904 := by omega
      refine ⟨y, (g2.widen (Nat.le_refl _) h20).trans (f1.widen (by omega) (Nat.le_refl _)), .step ?_ f2, fun r hr => ?_⟩
      · rw [Nat.min_eq_left h20]
        exact g3.same fun i h1 h2 => f1.out i (.inl h2)
      · obtain ⟨K2, h⟩ := f3 r hr
        refine ⟨K1 + K2 + 1, fun k hk => ?_⟩
        obtain ⟨k, rfl⟩ : ∃ m, k = m + 1 := ⟨k - 1, by omega⟩
        show api_Cell_78.l0 (k + 1) x n 20 c (c + 20 : Nat) = _
        rw [api_Cell_78.l0, if_pos (Int.ofNat_le.2 h20), show api_Cell_81.f k x c (c + 20 : Nat) = some x1 from g1 k (by omega), Option.bind_some, show wrap64 (((c + 20 : Nat) : Int) + 20) = ((c + 20 + 20 : Nat) : Int) from w64_add (a := c + 20) (b := 20) rfl q1]
        exact h k (by omega)
    · obtain ⟨x1, ⟨K1, g1⟩, g2, g3⟩ := insert_ev x c n (by omega) hc hn
      refine ⟨x1, g2, .step (by rw [Nat.min_eq_right (by omega)]; exact g3) (.done (by omega)), fun r hr => ?_⟩
      obtain ⟨K2, h⟩ := hr
      refine ⟨K1 + K2 + 1, fun k hk => ?_⟩
      obtain ⟨k, rfl⟩ : ∃ m, k = m + 1 := ⟨k - 1, by omega⟩
      show api_Cell_78.l0 (k + 1) x n 20 c (c + 20 : Nat) = _
      rw [api_Cell_78.l0, if_neg (fun hh => h20 (Int.ofNat_le.1 hh)), show api_Cell_81.f k x c n = some x1 from g1 k (by omega), Option.bind_some]
      exact h k (by omega)
theorem pass_ev (n bs : Nat) (hb0 : 0 < bs) (hbn : bs < n) : ∀ (d c : Nat) (x : List S61), n - c = d → c ≤ n → n ≤ x.length → x.length ≤ 100000000000000000 → Blk x bs n c →
    ∃ y, Kp x y c n ∧ Blk y (2 * bs) n c ∧ ∀ r, Ev (fun k => api_Cell_78.l1 k y n (2 * bs : Nat)) r → Ev (fun k => api_Cell_78.l2 k x n bs c (c + 2 * bs : Nat)) r := by
  intro d
  induction d using Nat.strongRecOn with
  | _ d ih =>
    intro c x hd hc hn hl hB
    have q1 : c + bs ≤ 4611686018427387904 := by omega
    have q2 : 2 * bs ≤ 4611686018427387904 := by omega
    have q3 : c + 2 * bs + 2 * bs ≤ 4611686018427387904 := by omega
    have e2 : wrap64 (2 * (bs : Int)) = ((2 * bs : Nat) : Int) := by rw [w64 (by omega)]; omega
    have e3 : wrap64 ((bs : Int) * 2) = ((2 * bs : Nat) : Int) := by rw [w64 (by omega)]; omega
    by_cases h2 : c + 2 * bs ≤ n
    · have q4 : c + bs < c + 2 * bs := by omega
      have q5 : c < c + bs := by omega
      have q6 : c + 2 * bs ≤ x.length := by omega
      have q7 : x.length ≤ 2305843009213693000 := by omega
      obtain ⟨b1, b2, b3⟩ : So x c (c + bs) ∧ So x (c + bs) (c + 2 * bs) ∧ Blk x bs n (c + 2 * bs) := by
        cases hB with
        | done h => omega
        | step h t =>
          rw [Nat.min_eq_left (by omega)] at h
          cases t with
          | done h' => omega
          | step h' t' =>
            rw [Nat.min_eq_left (by omega), show c + bs + bs = c + 2 * bs by omega] at h'
            rw [show c + bs + bs = c + 2 * bs by omega] at t'
            exact ⟨h, h', t'⟩
      obtain ⟨x1, ⟨K1, g1⟩, g2, g3⟩ := merge_ev x c (c + bs) (c + 2 * bs) q5 q4 q6 q7 b1 b2
      have l1 : x1.length = x.length := g2.len
      obtain ⟨y, f1, f2, f3⟩ := ih (n - (c + 2 * bs)) (by omega) (c + 2 * bs) x1 rfl h2 (by omega) (by omega) (b3.same fun i h1 h2 => g2.out i (.inr h1))
      refine ⟨y, (g2.widen (Nat.le_refl _) h2).trans (f1.widen (by omega) (Nat.le_refl _)), .step ?_ f2, fun r hr => ?_⟩
      · rw [Nat.min_eq_left h2]
        exact g3.same fun i h1 h2 => f1.out i (.inl h2)
      · obtain ⟨K2, h⟩ := f3 r hr
        refine ⟨K1 + K2 + 1, fun k hk => ?_⟩
        obtain ⟨k, rfl⟩ : ∃ m, k = m + 1 := ⟨k - 1, by omega⟩
        show api_Cell_78.l2 (k + 1) x n bs c (c + 2 * bs : Nat) = _
        rw [api_Cell_78.l2, if_pos (Int.ofNat_le.2 h2), w64_add (a := c) (b := bs) rfl q1, show api_Cell_82.f k x c (c + bs : Nat) (c + 2 * bs : Nat) = some x1 from g1 k (by omega), Option.bind_some, e2, w64_add (a := c + 2 * bs) (b := 2 * bs) rfl q3]
        exact h k (by omega)
    · by_cases h3 : c + bs < n
      · have q5 : c < c + bs := by omega
        have q7 : x.length ≤ 2305843009213693000 := by omega
        obtain ⟨b1, b2⟩ : So x c (c + bs) ∧ So x (c + bs) n := by
          cases hB with
          | done h => omega
          | step h t =>
            rw [Nat.min_eq_left (by omega)] at h
            cases t with
            | done h' => omega
            | step h' t' =>
              rw [Nat.min_eq_right (by omega)] at h'
              exact ⟨h, h'⟩
        obtain ⟨x1, ⟨K1, g1⟩, g2, g3⟩ := merge_ev x c (c + bs) n q5 h3 hn q7 b1 b2
        refine ⟨x1, g2, .step (by rw [Nat.min_eq_right (by omega)]; exact g3) (.done (by omega)), fun r hr => ?_⟩
        obtain ⟨K2, h⟩ := hr
        refine ⟨K1 + K2 + 1, fun k hk => ?_⟩
        obtain ⟨k, rfl⟩ : ∃ m, k = m + 1 := ⟨k - 1, by omega⟩
        show api_Cell_78.l2 (k + 1) x n bs c (c + 2 * bs : Nat) = _
        rw [api_Cell_78.l2, if_neg (fun hh => h2 (Int.ofNat_le.1 hh)), w64_add (a := c) (b := bs) rfl q1, if_pos (Int.ofNat_lt.2 h3), show api_Cell_82.f k x c (c + bs : Nat) n = some x1 from g1 k (by omega), Option.bind_some, e3]
        exact h k (by omega)
      · have hB' : Blk x (2 * bs) n c := by
          cases hB with
          | done h => exact .done h
          | step h t =>
            refine .step ?_ (.done (by omega))
            rw [Nat.min_eq_right (by omega)] at h ⊢
            exact h
        refine ⟨x, Kp.refl _ _ _, hB', fun r hr => ?_⟩
        obtain ⟨K2, h⟩ := hr
        refine ⟨K2 + 1, fun k hk => ?_⟩
        obtain ⟨k, rfl⟩ : ∃ m, k = m + 1 := ⟨k - 1, by omega⟩
        show api_Cell_78.l2 (k + 1) x n bs c (c + 2 * bs : Nat) = _
        rw [api_Cell_78.l2, if_neg (fun hh => h2 (Int.ofNat_le.1 hh)), w64_add (a := c) (b := bs) rfl q1, if_neg (fun hh => h3 (Int.ofNat_lt.1 hh)), e3]
        exact h k (by omega)
theorem passes_ev (n : Nat) : ∀ (d bs : Nat) (x : List S61), n - bs = d → 0 < bs → n ≤ x.length → x.length ≤ 100000000000000000 → Blk x bs n 0 →
    ∃ r, Ev (fun k => api_Cell_78.l1 k x n bs) r ∧ Kp x r 0 n ∧ So r 0 n := by
  intro d
  induction d using Nat.strongRecOn with
  | _ d ih =>
    intro bs x hd hb0 hn hl hB
    by_cases hbn : bs < n
    · obtain ⟨y, f1, f2, f3⟩ := pass_ev n bs hb0 hbn n 0 x (Nat.sub_zero _) (Nat.zero_le _) hn hl hB
      have l1 : y.length = x.length := f1.len
      obtain ⟨r, g1, g2, g3⟩ := ih (n - 2 * bs) (by omega) (2 * bs) y rfl (by omega) (by omega) (by omega) f2
      obtain ⟨K, h⟩ := f3 r g1
      have e2 : wrap64 (2 * (bs : Int)) = ((0 + 2 * bs : Nat) : Int) := by rw [w64 (by omega)]; omega
      refine ⟨r, ⟨K + 1, fun k hk => ?_⟩, f1.trans g2, g3⟩
      obtain ⟨k, rfl⟩ : ∃ m, k = m + 1 := ⟨k - 1, by omega⟩
      show api_Cell_78.l1 (k + 1) x n bs = _
      rw [api_Cell_78.l1, if_pos (Int.ofNat_lt.2 hbn), e2]
      exact h k (by omega)
    · refine ⟨x, ⟨1, fun k hk => ?_⟩, Kp.refl _ _ _, ?_⟩
      · obtain ⟨k, rfl⟩ : ∃ m, k = m + 1 := ⟨k - 1, by omega⟩
        show api_Cell_78.l1 (k + 1) x n bs = _
        rw [api_Cell_78.l1, if_neg (fun hh => hbn (Int.ofNat_lt.1 hh))]
      · cases hB with
        | done h => exact fun i j h1 h2 h3 => by omega
        | step h t => rwa [Nat.min_eq_right (by omega)] at h
/-- The program's sort. -/
theorem sorted_ev (x : List S61) (hl : x.length < 5864062014805) : ∃ r, Ev (fun k => shape_sorted.f k x) r ∧ r.Perm x ∧ So r 0 r.length := by
  obtain ⟨y, f1, f2, f3⟩ := blocks_ev x.length x.length 0 x (Nat.sub_zero _) (Nat.zero_le _) (Nat.le_refl _) (by omega)
  have l1 : y.length = x.length := f1.len
  obtain ⟨r, g1, g2, g3⟩ := passes_ev x.length (x.length - 20) 20 y rfl (by decide) (by omega) (by omega) f2
  obtain ⟨K, h⟩ := f3 r g1
  have l2 : r.length = y.length := g2.len
  refine ⟨r, ⟨K, fun k hk => ?_⟩, g2.prm.trans f1.prm, by rw [l2, l1]; exact g3⟩
  show shape_sorted.f k x = _
  unfold shape_sorted.f api_Cell_67.f api_Cell_68.f api_Cell_78.f
  rw [if_pos hl, Option.bind_some, show api_Cell_78.l0 k x (x.length : Int) 20 0 20 = some r from h k hk]
  rfl

/-! the document's sort -/
instance (a b : S61) : Decidable (lt a b) := by unfold lt; infer_instance
theorem ahead_eq (a b : S61) : vivariumref24_Ahead.f a.f0 a.f1 a.f2 b.f0 b.f1 b.f2 = some (if lt a b then true else false) := by
  unfold vivariumref24_Ahead.f
  by_cases h1 : a.f1 < b.f1
  · rw [if_pos h1, if_pos (show lt a b from .inl h1)]
  · rw [if_neg h1]
    by_cases h2 : a.f1 = b.f1
    · rw [if_pos h2]
      by_cases h3 : a.f0 < b.f0
      · rw [decide_eq_true h3, if_pos (show lt a b from .inr ⟨h2, h3⟩)]
      · rw [decide_eq_false h3, if_neg (show ¬ lt a b by unfold lt; omega)]
    · rw [if_neg h2, if_neg (show ¬ lt a b by unfold lt; omega)]
end Go.Proofs.Ytocijdlbpablkaa.Sb
/- The document's sort, and: of cells at places of their own there is one list in order. -/
namespace Go.Proofs.Ytocijdlbpablkaa.Sb
open Go.RowKit Go.Proofs.YtocijdlbpablkaaW.PrintWords
set_option linter.unusedVariables false

theorem ref_inner (x0 : List S61) (i : Nat) (hi : i < 4611686018427387904) : ∀ (j : Nat) (y : List S61), j + 1 ≤ y.length → y.length ≤ 100000000000000000 → Inv y 0 (y.length - 1) j →
    ∃ y', Kp y y' 0 y.length ∧ So y' 0 y.length ∧ ∀ r, Ev (fun k => vivariumref24_Sorted.l0 k x0 y' (i + 1 : Nat)) r → Ev (fun k => vivariumref24_Sorted.l1 k x0 y i j) r := by
  intro j
  induction j with
  | zero =>
    intro y hj hl hinv
    have hs := hinv.done (Nat.le_refl _) (Nat.zero_le _) (.inl rfl)
    rw [show y.length - 1 + 1 = y.length by omega] at hs
    refine ⟨y, Kp.refl _ _ _, hs, ?_⟩
    rintro r ⟨K, h⟩
    refine ⟨K + 1, fun k hk => ?_⟩
    obtain ⟨k, rfl⟩ : ∃ m, k = m + 1 := ⟨k - 1, by omega⟩
    show vivariumref24_Sorted.l1 (k + 1) x0 y i (0 : Nat) = _
    rw [vivariumref24_Sorted.l1, if_neg (show ¬ ((0 : Nat) : Int) > 0 by decide), w64_succ hi]
    exact h k (by omega)
  | succ j ih =>
    intro y hj hl hinv
    have q1 : j + 1 ≤ 4611686018427387904 := by omega
    have q2 : j + 1 < y.length := by omega
    have q3 : j < y.length := by omega
    have q4 : 0 < j + 1 := by omega
    have q5 : ((j + 1 : Nat) : Int) > 0 := by omega
    have eq : ∀ k, vivariumref24_Sorted.l1 (k + 1) x0 y i (j + 1 : Nat) = if lt (V y (j + 1)) (V y j) then vivariumref24_Sorted.l1 k x0 (sw y (j + 1) j) i j else vivariumref24_Sorted.l0 k x0 y (i + 1 : Nat) := fun k => by
      rw [vivariumref24_Sorted.l1, if_pos q5, if_pos (Int.natCast_nonneg _), if_pos (Int.ofNat_lt.2 q2), show wrap64 (((j + 1 : Nat) : Int) - 1) = (j : Int) from w64_sub (a := j + 1) (b := 1) rfl q1, if_pos (Int.natCast_nonneg _), if_pos (Int.ofNat_lt.2 q3), rd_V, rd_V, ahead_eq, Option.bind_some, w64_succ hi]
      by_cases h : lt (V y (j + 1)) (V y j)
      · rw [if_pos h, if_pos rfl, if_pos h]
        rfl
      · rw [if_neg h, if_neg (by decide), if_neg h]
    by_cases hlt : lt (V y (j + 1)) (V y j)
    · have hsw : Kp y (sw y (j + 1) j) 0 y.length := Kp.sw q2 q3 (Nat.zero_le _) q2 (Nat.zero_le _) q3
      have hinv' := hinv.step (a := 0) q4 (by omega) (by omega) (by rw [show j + 1 - 1 = j by omega]; exact hlt)
      rw [show j + 1 - 1 = j by omega] at hinv'
      obtain ⟨y', g1, g2, g3⟩ := ih (sw y (j + 1) j) (by rw [len_sw]; omega) (by rw [len_sw]; exact hl) (by rw [len_sw]; exact hinv')
      rw [len_sw] at g1 g2
      refine ⟨y', hsw.trans g1, g2, fun r hr => ?_⟩
      obtain ⟨K, h⟩ := g3 r hr
      refine ⟨K + 1, fun k hk => ?_⟩
      obtain ⟨k, rfl⟩ : ∃ m, k = m + 1 := ⟨k - 1, by omega⟩
      exact (eq k).trans ((if_pos hlt).trans (h k (by omega)))
    · have hs := hinv.done (Nat.zero_le _) (by omega) (.inr (by rw [show j + 1 - 1 = j by omega]; exact hlt))
      rw [show y.length - 1 + 1 = y.length by omega] at hs
      refine ⟨y, Kp.refl _ _ _, hs, ?_⟩
      rintro r ⟨K, h⟩
      refine ⟨K + 1, fun k hk => ?_⟩
      obtain ⟨k, rfl⟩ : ∃ m, k = m + 1 := ⟨k - 1, by omega⟩
      exact (eq k).trans ((if_neg hlt).trans (h k (by omega)))
theorem ref_outer (x0 : List S61) (hl : x0.length < 5864062014805) : ∀ (d i : Nat) (out : List S61), i + d = x0.length → out.Perm (x0.take i) → So out 0 out.length →
    ∃ r, Ev (fun k => vivariumref24_Sorted.l0 k x0 out i) r ∧ r.Perm x0 ∧ So r 0 r.length := by
  intro d
  induction d with
  | zero =>
    intro i out hd hp hs
    obtain rfl : i = x0.length := by omega
    rw [List.take_length] at hp
    refine ⟨out, ⟨1, fun k hk => ?_⟩, hp, hs⟩
    obtain ⟨k, rfl⟩ : ∃ m, k = m + 1 := ⟨k - 1, by omega⟩
    show vivariumref24_Sorted.l0 (k + 1) x0 out x0.length = _
    rw [vivariumref24_Sorted.l0, if_neg (Int.lt_irrefl _)]
  | succ d ih =>
    intro i out hd hp hs
    have hi : i < x0.length := by omega
    have lo : out.length = i := by rw [hp.length_eq, List.length_take]; omega
    obtain ⟨y, hy⟩ : ∃ y, y = out ++ [V x0 i] := ⟨_, rfl⟩
    have ly : y.length = i + 1 := by rw [hy, List.length_append, lo]; rfl
    have hyp : y.Perm (x0.take (i + 1)) := by
      rw [hy, List.take_succ_eq_append_getElem hi, ← V_eq hi]
      exact hp.append_right _
    have hv : ∀ p, p < i → V y p = V out p := fun p hp' => by
      unfold V
      rw [hy, List.getD_eq_getElem?_getD, List.getD_eq_getElem?_getD, List.getElem?_append_left (by omega)]
    have hinv : Inv y 0 (y.length - 1) i := by
      rw [ly, show i + 1 - 1 = i by omega]
      refine Inv.start (So.same (x := out) ?_ fun p _ h => hv p h)
      rw [← lo]
      exact hs
    obtain ⟨y', g1, g2, g3⟩ := ref_inner x0 i (by omega) i y (by omega) (by omega) hinv
    have ly' : y'.length = y.length := g1.len
    obtain ⟨r, ⟨K, f1⟩, f2, f3⟩ := ih (i + 1) y' (by omega) (g1.prm.trans hyp) (by rw [ly']; exact g2)
    obtain ⟨K', h⟩ := g3 r ⟨K, f1⟩
    refine ⟨r, ⟨K' + 1, fun k hk => ?_⟩, f2, f3⟩
    obtain ⟨k, rfl⟩ : ∃ m, k = m + 1 := ⟨k - 1, by omega⟩
    have q1 : out.length < 5864062014805 := by omega
    have q2 : i + 1 ≤ 4611686018427387904 := by omega
    show vivariumref24_Sorted.l0 (k + 1) x0 out i = _
    rw [vivariumref24_Sorted.l0, if_pos (Int.ofNat_lt.2 hi), if_pos (Int.natCast_nonneg _), if_pos q1, rd_V]
    show (some (out ++ [V x0 i])).bind _ = _
    rw [← hy, Option.bind_some, ly, show wrap64 (((i + 1 : Nat) : Int) - 1) = (i : Int) from w64_sub (a := i + 1) (b := 1) rfl q2]
    exact h k (by omega)
/-- The document's sort. -/
theorem refsorted_ev (x : List S61) (hl : x.length < 5864062014805) : ∃ r, Ev (fun k => vivariumref24_Sorted.f k x) r ∧ r.Perm x ∧ So r 0 r.length :=
  ref_outer x hl x.length 0 [] (Nat.zero_add _) (List.Perm.refl _) (fun i j _ _ h => absurd h (Nat.not_lt_zero _))

def Inj (l : List S61) : Prop := ∀ a ∈ l, ∀ b ∈ l, a.f0 = b.f0 → a.f1 = b.f1 → a = b
theorem So.pair {r : List S61} (h : So r 0 r.length) : r.Pairwise fun a b => ¬ lt b a := by
  rw [List.pairwise_iff_getElem]
  intro i j hi hj hij
  have := h i j (Nat.zero_le _) hij hj
  rwa [V_eq hi, V_eq hj] at this
theorem one_list {l r r' : List S61} (h : Inj l) (hp : r.Perm l) (hp' : r'.Perm l) (hs : So r 0 r.length) (hs' : So r' 0 r'.length) : r = r' := by
  refine List.Perm.eq_of_pairwise (le := fun a b => ¬ lt b a) ?_ hs.pair hs'.pair (hp.trans hp'.symm)
  intro a b ha hb h1 h2
  have ha' := hp.mem_iff.1 ha
  have hb' := hp'.mem_iff.1 hb
  exact h a ha' b hb' (by unfold lt at h1 h2; omega) (by unfold lt at h1 h2; omega)
/-- Both sorts give one list. -/
theorem sorts_ev (x : List S61) (hl : x.length < 5864062014805) (hi : Inj x) : ∃ r, Ev (fun k => shape_sorted.f k x) r ∧ Ev (fun k => vivariumref24_Sorted.f k x) r ∧ r.Perm x ∧ So r 0 r.length := by
  obtain ⟨r, g1, g2, g3⟩ := sorted_ev x hl
  obtain ⟨r', f1, f2, f3⟩ := refsorted_ev x hl
  obtain rfl := one_list hi g2 f2 g3 f3
  exact ⟨r, g1, f1, g2, g3⟩
end Go.Proofs.Ytocijdlbpablkaa.Sb
/- Check, refused and box: what the program reckons and what the document does. -/
namespace Go.Proofs.Ytocijdlbpablkaa.Sb
open Go.RowKit Go.Proofs.YtocijdlbpablkaaW.PrintWords
set_option linter.unusedVariables false

def near (c : S61) : Prop := -1099511627776 ≤ c.f0 ∧ c.f0 ≤ 1099511627776 ∧ -1099511627776 ≤ c.f1 ∧ c.f1 ≤ 1099511627776
instance (c : S61) : Decidable (near c) := by unfold near; infer_instance
theorem mn_ge (a b m : Int) : mn a b ≥ m ↔ a ≥ m ∧ b ≥ m := by unfold mn; split <;> omega
theorem mx_le (a b m : Int) : mx a b ≤ m ↔ a ≤ m ∧ b ≤ m := by unfold mx; split <;> omega
theorem near_dec {c : S61} {p : Prop} [Decidable p] (h : p ↔ near c) : decide p = decide (near c) := by rw [decide_eq_decide]; exact h
theorem near_no {c : S61} (h : ¬ near c) : false = decide (near c) := (decide_eq_false h).symm
theorem near_eq (c : S61) : shape_near.f c.f0 c.f1 c.f2 = some (decide (near c)) := by
  unfold shape_near.f
  by_cases h : mn c.f0 c.f1 ≥ -1099511627776
  · rw [if_pos h]
    refine congrArg some (near_dec ?_)
    rw [mn_ge] at h
    rw [mx_le]
    unfold near
    omega
  · rw [if_neg h]
    refine congrArg some (near_no fun hn => h ?_)
    rw [mn_ge]
    unfold near at hn
    omega
theorem rnear_eq (c : S61) : vivariumref24_Near.f c.f0 c.f1 c.f2 = some (decide (near c)) := by
  unfold vivariumref24_Near.f
  by_cases h1 : c.f0 ≥ -1099511627776
  · rw [if_pos h1]
    by_cases h2 : c.f0 ≤ 1099511627776
    · rw [if_pos h2]
      by_cases h3 : c.f1 ≥ -1099511627776
      · rw [if_pos h3]
        refine congrArg some (near_dec ?_)
        unfold near
        omega
      · rw [if_neg h3]
        exact congrArg some (near_no fun hn => by unfold near at hn; omega)
    · rw [if_neg h2]
      exact congrArg some (near_no fun hn => by unfold near at hn; omega)
  · rw [if_neg h1]
    exact congrArg some (near_no fun hn => by unfold near at hn; omega)
/-- What is wrong with the cells from i on, d of them. -/
def chkF (l : List S61) : Nat → Nat → Int
  | _, 0 => 0
  | i, d + 1 => if near (V l i) then (if (V l i).f2 = 0 ∨ (0 < i ∧ ¬ lt (V l (i - 1)) (V l i)) then 240 else chkF l (i + 1) d) else 5
def chk (l : List S61) : Int := if l.length > 16384 then 6 else chkF l 0 l.length
theorem cmpv_nonneg (a b : S61) : cmpv a b ≥ 0 ↔ ¬ lt a b := by rw [← cmpv_neg]; omega
theorem check_loop (l : List S61) (hl : l.length ≤ 16384) : ∀ (d i : Nat), i + d = l.length → ∀ k, d + 4 ≤ k → shape_Check.l0 k l (l.length : Int) i l = some (chkF l i d) := by
  intro d
  induction d with
  | zero =>
    intro i hd k hk
    obtain ⟨k, rfl⟩ : ∃ m, k = m + 1 := ⟨k - 1, by omega⟩
    obtain rfl : i = l.length := by omega
    rw [shape_Check.l0, if_neg (Int.lt_irrefl _)]
    rfl
  | succ d ih =>
    intro i hd k hk
    obtain ⟨k, rfl⟩ : ∃ m, k = m + 1 := ⟨k - 1, by omega⟩
    have q1 : i < l.length := by omega
    have q2 : i < 4611686018427387904 := by omega
    rw [shape_Check.l0, if_pos (Int.ofNat_lt.2 q1), if_pos (Int.natCast_nonneg _), if_pos (Int.ofNat_lt.2 q1), rd_V, near_eq, Option.bind_some, w64_succ q2, chkF]
    by_cases h1 : near (V l i)
    · rw [decide_eq_true h1, if_pos rfl, if_pos h1]
      by_cases h2 : (V l i).f2 = 0
      · rw [if_pos h2, if_pos (.inl h2)]
      · rw [if_neg h2]
        by_cases h3 : 0 < i
        · have q3 : i - 1 + 1 = i := by omega
          have q4 : i ≤ 4611686018427387904 := by omega
          have q5 : i - 1 < l.length := by omega
          rw [if_pos (show (i : Int) > 0 by omega), show wrap64 ((i : Int) - 1) = ((i - 1 : Nat) : Int) from w64_sub (a := i) (b := 1) q3 q4, if_pos (Int.natCast_nonneg _), if_pos (Int.ofNat_lt.2 q5), rd_V, byRows_eq _ _ (by omega), Option.bind_some]
          by_cases h4 : lt (V l (i - 1)) (V l i)
          · rw [if_neg (fun h => (cmpv_nonneg _ _).1 h h4), if_neg (fun h => h.elim h2 (fun h => h.2 h4))]
            exact ih (i + 1) (by omega) k (by omega)
          · rw [if_pos ((cmpv_nonneg _ _).2 h4), if_pos (.inr ⟨h3, h4⟩)]
        · rw [if_neg (show ¬ (i : Int) > 0 by omega), if_neg (fun h => h.elim h2 (fun h => h3 h.1))]
          exact ih (i + 1) (by omega) k (by omega)
    · rw [decide_eq_false h1, if_neg (by decide), if_neg h1]
theorem check_eq (l : List S61) {k : Nat} (hk : 16390 ≤ k) : shape_Check.f k l = some (chk l) := by
  unfold shape_Check.f chk
  by_cases h : l.length > 16384
  · rw [if_pos (by omega), if_pos h]
  · rw [if_neg (by omega), if_neg h]
    exact check_loop l (by omega) l.length 0 (Nat.zero_add _) k (by omega)
theorem rcheck_loop (l : List S61) (hl : l.length ≤ 16384) : ∀ (d i : Nat), i + d = l.length → ∀ k, d + 1 ≤ k → vivariumref24_Check.l0 k i l = some (chkF l i d) := by
  intro d
  induction d with
  | zero =>
    intro i hd k hk
    obtain ⟨k, rfl⟩ : ∃ m, k = m + 1 := ⟨k - 1, by omega⟩
    obtain rfl : i = l.length := by omega
    rw [vivariumref24_Check.l0, if_neg (Int.lt_irrefl _)]
    rfl
  | succ d ih =>
    intro i hd k hk
    obtain ⟨k, rfl⟩ : ∃ m, k = m + 1 := ⟨k - 1, by omega⟩
    have q1 : i < l.length := by omega
    have q2 : i < 4611686018427387904 := by omega
    rw [vivariumref24_Check.l0, if_pos (Int.ofNat_lt.2 q1), if_pos (Int.natCast_nonneg _), rd_V, rnear_eq, Option.bind_some, w64_succ q2, chkF]
    by_cases h1 : near (V l i)
    · rw [decide_eq_true h1, if_pos rfl, if_pos h1]
      by_cases h2 : (V l i).f2 = 0
      · rw [if_pos h2, if_pos (.inl h2)]
      · rw [if_neg h2]
        by_cases h3 : 0 < i
        · have q3 : i - 1 + 1 = i := by omega
          have q4 : i ≤ 4611686018427387904 := by omega
          have q5 : i - 1 < l.length := by omega
          rw [if_pos (show (i : Int) > 0 by omega), show wrap64 ((i : Int) - 1) = ((i - 1 : Nat) : Int) from w64_sub (a := i) (b := 1) q3 q4, if_pos (Int.natCast_nonneg _), if_pos (Int.ofNat_lt.2 q5), rd_V, ahead_eq, Option.bind_some]
          by_cases h4 : lt (V l (i - 1)) (V l i)
          · rw [if_pos h4, if_pos rfl, if_neg (fun h => h.elim h2 (fun h => h.2 h4))]
            exact ih (i + 1) (by omega) k (by omega)
          · rw [if_neg h4, if_neg (by decide), if_pos (.inr ⟨h3, h4⟩)]
        · rw [if_neg (show ¬ (i : Int) > 0 by omega), if_neg (fun h => h.elim h2 (fun h => h3 h.1))]
          exact ih (i + 1) (by omega) k (by omega)
    · rw [decide_eq_false h1, if_neg (by decide), if_neg h1]
theorem rcheck_eq (l : List S61) {k : Nat} (hk : 16390 ≤ k) : vivariumref24_Check.f k l = some (chk l) := by
  unfold vivariumref24_Check.f chk
  by_cases h : l.length > 16384
  · rw [if_pos (by omega), if_pos h]
  · rw [if_neg (by omega), if_neg h]
    exact rcheck_loop l (by omega) l.length 0 (Nat.zero_add _) k (by omega)
/-- What a shape that may be is. -/
theorem chkF_ok {l : List S61} : ∀ {d i : Nat}, chkF l i d = 0 → ∀ j, i ≤ j → j < i + d → near (V l j) ∧ (V l j).f2 ≠ 0 ∧ (0 < j → lt (V l (j - 1)) (V l j))
  | 0, i, _, j, h1, h2 => by omega
  | d + 1, i, h, j, h1, h2 => by
    rw [chkF] at h
    by_cases n1 : near (V l i)
    · rw [if_pos n1] at h
      by_cases n2 : (V l i).f2 = 0 ∨ (0 < i ∧ ¬ lt (V l (i - 1)) (V l i))
      · rw [if_pos n2] at h; cases h
      · rw [if_neg n2] at h
        rcases Nat.eq_or_lt_of_le h1 with e | e
        · subst e
          refine ⟨n1, fun h' => n2 (.inl h'), fun h' => ?_⟩
          by_cases n3 : lt (V l (i - 1)) (V l i)
          · exact n3
          · exact absurd (.inr ⟨h', n3⟩) n2
        · exact chkF_ok h j e (by omega)
    · rw [if_neg n1] at h; cases h
theorem chk_ok {l : List S61} (h : chk l = 0) : l.length ≤ 16384 ∧ ∀ j, j < l.length → near (V l j) ∧ (V l j).f2 ≠ 0 ∧ (0 < j → lt (V l (j - 1)) (V l j)) := by
  unfold chk at h
  by_cases h1 : l.length > 16384
  · rw [if_pos h1] at h; cases h
  · rw [if_neg h1] at h
    exact ⟨by omega, fun j hj => chkF_ok h j (Nat.zero_le _) (by omega)⟩
theorem lt_trans' {a b c : S61} (h : lt a b) (h' : lt b c) : lt a c := by unfold lt at *; omega
theorem chk_lt {l : List S61} (h : chk l = 0) : ∀ (d i j : Nat), i + d + 1 = j → j < l.length → lt (V l i) (V l j) := by
  intro d
  induction d with
  | zero =>
    intro i j hd hj
    have := ((chk_ok h).2 j hj).2.2 (by omega)
    rwa [show j - 1 = i by omega] at this
  | succ d ih =>
    intro i j hd hj
    have h1 := ih i (j - 1) (by omega) (by omega)
    have h2 := ((chk_ok h).2 j hj).2.2 (by omega)
    exact lt_trans' h1 h2
theorem chk_inj {l : List S61} (h : chk l = 0) : Inj l := by
  intro a ha b hb e1 e2
  obtain ⟨i, hi, rfl⟩ := List.getElem_of_mem ha
  obtain ⟨j, hj, rfl⟩ := List.getElem_of_mem hb
  rcases Nat.lt_trichotomy i j with c | c | c
  · have := chk_lt h (j - i - 1) i j (by omega) hj
    rw [V_eq hi, V_eq hj] at this
    unfold lt at this
    omega
  · subst c; rfl
  · have := chk_lt h (i - j - 1) j i (by omega) hi
    rw [V_eq hi, V_eq hj] at this
    unfold lt at this
    omega

/-! refused -/
theorem refused2_eq (a b : List S61) {k : Nat} (hk : 20000 ≤ k) : shape_refused.f k [⟨a⟩, ⟨b⟩] = some (decide (chk a ≠ 0 ∨ chk b ≠ 0)) := by
  obtain ⟨n, rfl⟩ : ∃ n, k = n + 1 + 1 + 1 := ⟨k - 3, by omega⟩
  unfold shape_refused.f
  rw [show (([⟨a⟩, ⟨b⟩] : List S24).length : Int) = 2 from rfl, shape_refused.l0, if_pos (by decide), if_pos (by decide), if_pos (by simp), show (rd_T24 [⟨a⟩, ⟨b⟩] 0).f0 = a from rfl, check_eq a (by omega), Option.bind_some, show wrap64 (0 + 1) = 1 from w64 (by omega)]
  by_cases ha : chk a = 0
  · rw [if_pos ha, shape_refused.l0, if_pos (by decide), if_pos (by decide), if_pos (by simp), show (rd_T24 [⟨a⟩, ⟨b⟩] 1).f0 = b from rfl, check_eq b (by omega), Option.bind_some, show wrap64 (1 + 1) = 2 from w64 (by omega)]
    by_cases hb : chk b = 0
    · rw [if_pos hb, shape_refused.l0, if_neg (by decide), decide_eq_false (fun h => h.elim (fun h => h ha) (fun h => h hb))]
    · rw [if_neg hb, decide_eq_true (.inr hb)]
  · rw [if_neg ha, decide_eq_true (.inl ha)]

/-! box -/
def bxF (l : List S61) : Nat → Nat → Int → Int → Int → Int → Int × Int × Int × Int
  | _, 0, a, b, c, e => (a, b, wrap64 (wrap64 (c - a) + 1), wrap64 (wrap64 (e - b) + 1))
  | i, d + 1, a, b, c, e => bxF l (i + 1) d (mn a (V l i).f0) (mn b (V l i).f1) (mx c (V l i).f0) (mx e (V l i).f1)
def bx (l : List S61) : Int × Int × Int × Int := if l.length = 0 then (0, 0, 0, 0) else bxF l 1 (l.length - 1) (V l 0).f0 (V l 0).f1 (V l 0).f0 (V l 0).f1
theorem V_drop (l : List S61) (i : Nat) : V (l.drop 1) i = V l (i + 1) := by
  unfold V
  rw [List.getD_eq_getElem?_getD, List.getD_eq_getElem?_getD, List.getElem?_drop]
  congr 2
  omega
theorem box_loop (l : List S61) (hl : l.length ≤ 4611686018427387900) : ∀ (d i : Nat), i + d = (l.drop 1).length → ∀ (a b c e : Int) (k : Nat), d + 1 ≤ k → shape_box.l0 k a b c e (l.drop 1) ((l.drop 1).length : Int) i = some (bxF l (i + 1) d a b c e) := by
  intro d
  induction d with
  | zero =>
    intro i hd a b c e k hk
    obtain ⟨k, rfl⟩ : ∃ m, k = m + 1 := ⟨k - 1, by omega⟩
    obtain rfl : i = (l.drop 1).length := by omega
    rw [shape_box.l0, if_neg (Int.lt_irrefl _)]
    rfl
  | succ d ih =>
    intro i hd a b c e k hk
    obtain ⟨k, rfl⟩ : ∃ m, k = m + 1 := ⟨k - 1, by omega⟩
    have q1 : i < (l.drop 1).length := by omega
    have q0 : (l.drop 1).length = l.length - 1 := List.length_drop
    have q2 : i < 4611686018427387904 := by omega
    rw [shape_box.l0, if_pos (Int.ofNat_lt.2 q1), if_pos (Int.natCast_nonneg _), if_pos (Int.ofNat_lt.2 q1), rd_V, V_drop, w64_succ q2, bxF]
    exact ih (i + 1) (by omega) _ _ _ _ k (by omega)
theorem box_eq (l : List S61) (hl : l.length ≤ 4611686018427387900) {k : Nat} (hk : l.length + 1 ≤ k) : shape_box.f k l = some (bx l) := by
  unfold shape_box.f bx
  by_cases h : l.length = 0
  · rw [if_pos (by omega), if_pos h]
  · have q0 : (l.drop 1).length = l.length - 1 := List.length_drop
    rw [if_neg (by omega), if_neg h, if_pos (by omega), if_pos (by omega)]
    show (some (l.drop 1)).bind _ = _
    rw [Option.bind_some, show rd_T61 l 0 = V l 0 from rd_V l 0, ← q0]
    exact box_loop l hl _ 0 (Nat.zero_add _) _ _ _ _ k (by omega)
theorem rbox_loop (l : List S61) (hl : l.length ≤ 4611686018427387900) : ∀ (d i : Nat), i + d = l.length → ∀ (a b c e : Int) (k : Nat), d + 1 ≤ k → vivariumref24_box.l0 k l a c b e i = some (bxF l i d a b c e) := by
  intro d
  induction d with
  | zero =>
    intro i hd a b c e k hk
    obtain ⟨k, rfl⟩ : ∃ m, k = m + 1 := ⟨k - 1, by omega⟩
    obtain rfl : i = l.length := by omega
    rw [vivariumref24_box.l0, if_neg (Int.lt_irrefl _)]
    rfl
  | succ d ih =>
    intro i hd a b c e k hk
    obtain ⟨k, rfl⟩ : ∃ m, k = m + 1 := ⟨k - 1, by omega⟩
    have q1 : i < l.length := by omega
    have q2 : i < 4611686018427387904 := by omega
    rw [vivariumref24_box.l0, if_pos (Int.ofNat_lt.2 q1), if_pos (Int.natCast_nonneg _), rd_V, w64_succ q2, bxF]
    exact ih (i + 1) (by omega) _ _ _ _ k (by omega)
theorem rbox_eq (l : List S61) (hl : l.length ≤ 4611686018427387900) {k : Nat} (hk : l.length + 1 ≤ k) : vivariumref24_box.f k l = some (bx l) := by
  unfold vivariumref24_box.f bx
  by_cases h : l.length = 0
  · rw [if_pos (by omega), if_pos h]
  · rw [if_neg (by omega), if_neg h, if_pos (by omega), show rd_T61 l 0 = V l 0 from rd_V l 0]
    exact rbox_loop l hl (l.length - 1) 1 (by omega) _ _ _ _ k (by omega)
end Go.Proofs.Ytocijdlbpablkaa.Sb
/- The eight turns: what the program reckons with complex numbers and the document with whole ones. -/
namespace Go.Proofs.Ytocijdlbpablkaa.Sb
open Go.RowKit Go.Proofs.YtocijdlbpablkaaW.PrintWords Go.Proofs.YtocijdlbpablkaaW.XWords Go.Proofs.YtocijdlbpablkaaW.XI
set_option linter.unusedVariables false

/-- A quarter turn as a number. -/
def Qt (u v : Int) (n : Int) : Prop := (u = 1 ∧ v = 0 ∧ n = 0) ∨ (u = 0 ∧ v = 1 ∧ n = 1) ∨ (u = -1 ∧ v = 0 ∧ n = 2) ∨ (u = 0 ∧ v = -1 ∧ n = 3)
/-- A linear map as the program holds it. -/
structure Lm (tr : Nat × Nat) (mv : Nat × Nat) (u v n : Int) : Prop where
  a : IsI tr.1 u
  b : IsI tr.2 v
  c : IsI mv.1 0
  d : IsI mv.2 0
  q : Qt u v n
theorem cEqB_int {a b c d : Nat} {u v p q : Int} (ha : IsI a u) (hb : IsI b v) (hc : IsI c p) (hd : IsI d q) : cEqB a b c d = decide (u = p ∧ v = q) := by
  unfold cEqB
  rw [isI_fEq ha hc, isI_fEq hb hd]
  rw [Bool.eq_iff_iff]
  simp
theorem quarter_eq {tr mv : Nat × Nat} {u v n : Int} (h : Lm tr mv u v n) : iso_quarter.f tr = some (n, true) := by
  unfold iso_quarter.f
  rw [cEqB_int isI_1 isI_0 h.a h.b, cEqB_int isI_0 isI_1 h.a h.b, cEqB_int isI_m1 isI_0 h.a h.b, cEqB_int isI_0 isI_m1 h.a h.b]
  rcases h.q with ⟨rfl, rfl, rfl⟩ | ⟨rfl, rfl, rfl⟩ | ⟨rfl, rfl, rfl⟩ | ⟨rfl, rfl, rfl⟩
  all_goals simp
theorem far_lo : IsI 14010698440749613056 (-1099511627776) := by
  have h := isI_of (n := -1099511627776) (by decide)
  rwa [show floatOfInt .f64 (-1099511627776) = 14010698440749613056 by decide +kernel] at h
theorem far_hi : IsI 4787326403894837248 1099511627776 := by
  have h := isI_of (n := 1099511627776) (by decide)
  rwa [show floatOfInt .f64 1099511627776 = 4787326403894837248 by decide +kernel] at h
theorem whole0 {x : Nat} (h : IsI x 0) : iso_whole.f x = some true := by
  unfold iso_whole.f
  rw [isI_fGe h far_lo, isI_fLe h far_hi, isI_fInt h (by omega)]
  have h0 : IsI (floatOfInt .f64 0) 0 := isI_of (by decide)
  simp [isI_fEq h h0]
theorem valid_eq {tr mv : Nat × Nat} {u v n : Int} (h : Lm tr mv u v n) (f : Bool) : iso_Valid.f tr f mv = some true := by
  unfold iso_Valid.f
  rw [quarter_eq h, Option.bind_some, if_pos rfl, whole0 h.c, Option.bind_some, if_pos rfl, whole0 h.d]
  rfl
theorem mul_b {a b : Nat} {u x : Int} (ha : IsI a u) (hb : IsI b x) (hu : u = 0 ∨ u = 1 ∨ u = -1) (hx : -1099511627776 ≤ x ∧ x ≤ 1099511627776) : ∃ r, fMul a b = some r ∧ IsI r (u * x) :=
  isI_mul ha hb (by rcases hu with rfl | rfl | rfl <;> omega)
theorem does_int {tr mv : Nat × Nat} {u v n : Int} (h : Lm tr mv u v n) {X Y : Nat} {x y : Int} (hX : IsI X x) (hY : IsI Y y) (hx : -1099511627776 ≤ x ∧ x ≤ 1099511627776) (hy : -1099511627776 ≤ y ∧ y ≤ 1099511627776) :
    ∃ re im, ((cMul tr.1 tr.2 X Y).bind fun t => ((cAdd t.1 t.2 mv.1 mv.2).bind fun t' => some t')) = some (re, im) ∧ IsI re (u * x - v * y) ∧ IsI im (u * y + v * x) := by
  have hu : u = 0 ∨ u = 1 ∨ u = -1 := by rcases h.q with ⟨rfl, _⟩ | ⟨rfl, _⟩ | ⟨rfl, _⟩ | ⟨rfl, _⟩ <;> simp
  have hv : v = 0 ∨ v = 1 ∨ v = -1 := by rcases h.q with ⟨_, rfl, _⟩ | ⟨_, rfl, _⟩ | ⟨_, rfl, _⟩ | ⟨_, rfl, _⟩ <;> simp
  obtain ⟨ac, e1, i1⟩ := mul_b h.a hX hu hx
  obtain ⟨bd, e2, i2⟩ := mul_b h.b hY hv hy
  obtain ⟨ad, e3, i3⟩ := mul_b h.a hY hu hy
  obtain ⟨bc, e4, i4⟩ := mul_b h.b hX hv hx
  obtain ⟨re, e5, i5⟩ := isI_sub i1 i2 (by rcases hu with rfl | rfl | rfl <;> rcases hv with rfl | rfl | rfl <;> omega)
  obtain ⟨im, e6, i6⟩ := isI_add i3 i4 (by rcases hu with rfl | rfl | rfl <;> rcases hv with rfl | rfl | rfl <;> omega)
  obtain ⟨re', e7, i7⟩ := isI_add i5 h.c (by rcases hu with rfl | rfl | rfl <;> rcases hv with rfl | rfl | rfl <;> omega)
  obtain ⟨im', e8, i8⟩ := isI_add i6 h.d (by rcases hu with rfl | rfl | rfl <;> rcases hv with rfl | rfl | rfl <;> omega)
  rw [Int.add_zero] at i7 i8
  refine ⟨re', im', ?_, i7, i8⟩
  have hm : cMul tr.1 tr.2 X Y = some (re, im) := by
    show cMulBits tr.1 tr.2 X Y = _
    unfold cMulBits
    rw [show floatBits .mul .f64 tr.1 X = some ac from e1, Option.bind_some, show floatBits .mul .f64 tr.2 Y = some bd from e2, Option.bind_some, show floatBits .sub .f64 ac bd = some re from e5, Option.bind_some,
      show floatBits .mul .f64 tr.1 Y = some ad from e3, Option.bind_some, show floatBits .mul .f64 tr.2 X = some bc from e4, Option.bind_some, show floatBits .add .f64 ad bc = some im from e6, Option.bind_some]
  have ha : cAdd re im mv.1 mv.2 = some (re', im') := by
    show cSumBits .add .f64 re im mv.1 mv.2 = _
    unfold cSumBits
    rw [show floatBits .add .f64 re mv.1 = some re' from e7, Option.bind_some, show floatBits .add .f64 im mv.2 = some im' from e8, Option.bind_some]
  rw [hm, Option.bind_some, ha]
  rfl
theorem inear_eq (x y : Int) : iso_near.f x y = some (decide (-1099511627776 ≤ x ∧ x ≤ 1099511627776 ∧ -1099511627776 ≤ y ∧ y ≤ 1099511627776)) := by
  unfold iso_near.f
  by_cases h1 : x ≥ -1099511627776
  · rw [if_pos h1]
    by_cases h2 : x ≤ 1099511627776
    · rw [if_pos h2]
      by_cases h3 : y ≥ -1099511627776
      · rw [if_pos h3]
        congr 1
        rw [decide_eq_decide]
        omega
      · rw [if_neg h3, decide_eq_false (by omega)]
    · rw [if_neg h2, decide_eq_false (by omega)]
  · rw [if_neg h1, decide_eq_false (by omega)]
/-- Where a place comes to. -/
def go (u v : Int) (f : Bool) (x y : Int) : Int × Int := (u * x - v * (if f then -y else y), u * (if f then -y else y) + v * x)
theorem go_near {u v n x y : Int} {f : Bool} (h : Qt u v n) (hx : -1099511627776 ≤ x ∧ x ≤ 1099511627776) (hy : -1099511627776 ≤ y ∧ y ≤ 1099511627776) :
    -1099511627776 ≤ (go u v f x y).1 ∧ (go u v f x y).1 ≤ 1099511627776 ∧ -1099511627776 ≤ (go u v f x y).2 ∧ (go u v f x y).2 ≤ 1099511627776 := by
  unfold go
  rcases h with ⟨rfl, rfl, _⟩ | ⟨rfl, rfl, _⟩ | ⟨rfl, rfl, _⟩ | ⟨rfl, rfl, _⟩ <;> cases f <;> simp <;> omega
theorem at_eq {tr mv : Nat × Nat} {u v n : Int} (h : Lm tr mv u v n) (f : Bool) {x y : Int} (hx : -1099511627776 ≤ x ∧ x ≤ 1099511627776) (hy : -1099511627776 ≤ y ∧ y ≤ 1099511627776) :
    iso_At.f tr f mv x y = some ((go u v f x y).1, (go u v f x y).2, 0) := by
  have hX : IsI (floatOfInt .f64 x) x := isI_of (by omega)
  have hY : IsI (floatOfInt .f64 y) y := isI_of (by omega)
  have hg := go_near (f := f) h.q hx hy
  have hd : ∃ re im, iso_does.f tr f mv (floatOfInt .f64 x, floatOfInt .f64 y) = some (re, im) ∧ IsI re (go u v f x y).1 ∧ IsI im (go u v f x y).2 := by
    unfold iso_does.f go
    cases f with
    | false =>
      obtain ⟨re, im, g1, g2, g3⟩ := does_int h hX hY hx hy
      refine ⟨re, im, ?_, g2, g3⟩
      rw [if_neg (by decide)]
      exact g1
    | true =>
      obtain ⟨re, im, g1, g2, g3⟩ := does_int h hX (isI_neg hY) hx (by omega)
      refine ⟨re, im, ?_, g2, g3⟩
      rw [if_pos rfl]
      unfold iso_conj.f
      rw [Option.bind_some]
      exact g1
  obtain ⟨re, im, g1, g2, g3⟩ := hd
  unfold iso_At.f
  rw [valid_eq h, Option.bind_some, if_pos rfl, inear_eq, Option.bind_some, decide_eq_true ⟨hx.1, hx.2, hy.1, hy.2⟩, if_pos rfl, g1, Option.bind_some, isI_fInt g2 (by omega), Option.bind_some, isI_fInt g3 (by omega), Option.bind_some, inear_eq, Option.bind_some, decide_eq_true hg, if_pos rfl]

/-! the document's -/
theorem turn0 : vivariumref05_Turn.f 0 = some (4607182418800017408, 0) := by decide +kernel
theorem turn1 : vivariumref05_Turn.f 1 = some (0, 4607182418800017408) := by decide +kernel
theorem turn2 : vivariumref05_Turn.f 2 = some (13830554455654793216, 0) := by decide +kernel
theorem turn3 : vivariumref05_Turn.f 3 = some (0, 13830554455654793216) := by decide +kernel
theorem quarters_eq {tr mv : Nat × Nat} {u v n : Int} (h : Lm tr mv u v n) {k : Nat} (hk : 5 ≤ k) : vivariumref05_quarters.f k tr = some n := by
  obtain ⟨j, rfl⟩ : ∃ j, k = j + 1 + 1 + 1 + 1 + 1 := ⟨k - 5, by omega⟩
  unfold vivariumref05_quarters.f
  rw [vivariumref05_quarters.l0, if_pos (by decide), turn0, Option.bind_some, cEqB_int h.a h.b isI_1 isI_0, show wrap64 (0 + 1) = 1 from w64 (by omega)]
  rcases h.q with ⟨rfl, rfl, rfl⟩ | ⟨rfl, rfl, rfl⟩ | ⟨rfl, rfl, rfl⟩ | ⟨rfl, rfl, rfl⟩
  · rw [if_pos (by decide)]
  · rw [if_neg (by decide), vivariumref05_quarters.l0, if_pos (by decide), turn1, Option.bind_some, cEqB_int h.a h.b isI_0 isI_1, if_pos (by decide)]
  · rw [if_neg (by decide), vivariumref05_quarters.l0, if_pos (by decide), turn1, Option.bind_some, cEqB_int h.a h.b isI_0 isI_1, if_neg (by decide), show wrap64 (1 + 1) = 2 from w64 (by omega), vivariumref05_quarters.l0, if_pos (by decide), turn2, Option.bind_some, cEqB_int h.a h.b isI_m1 isI_0, if_pos (by decide)]
  · rw [if_neg (by decide), vivariumref05_quarters.l0, if_pos (by decide), turn1, Option.bind_some, cEqB_int h.a h.b isI_0 isI_1, if_neg (by decide), show wrap64 (1 + 1) = 2 from w64 (by omega), vivariumref05_quarters.l0, if_pos (by decide), turn2, Option.bind_some, cEqB_int h.a h.b isI_m1 isI_0, if_neg (by decide), show wrap64 (2 + 1) = 3 from w64 (by omega), vivariumref05_quarters.l0, if_pos (by decide), turn3, Option.bind_some, cEqB_int h.a h.b isI_0 isI_m1, if_pos (by decide)]
theorem rwhole0 {x : Nat} (h : IsI x 0) : vivariumref05_whole.f x = some (0, true) := by
  unfold vivariumref05_whole.f
  rw [isI_fGe h far_lo, isI_fLe h far_hi, isI_fInt h (by omega)]
  have h0 : IsI (floatOfInt .f64 0) 0 := isI_of (by decide)
  simp [isI_fEq h0 h]
theorem parts_eq {tr mv : Nat × Nat} {u v n : Int} (h : Lm tr mv u v n) (f : Bool) {k : Nat} (hk : 6 ≤ k) : vivariumref05_parts.f k tr f mv = some (if f then n + 4 else n, 0, 0, true) := by
  obtain ⟨j, rfl⟩ : ∃ j, k = j + 1 := ⟨k - 1, by omega⟩
  have hn : 0 ≤ n ∧ n ≤ 3 := by rcases h.q with ⟨_, _, rfl⟩ | ⟨_, _, rfl⟩ | ⟨_, _, rfl⟩ | ⟨_, _, rfl⟩ <;> omega
  unfold vivariumref05_parts.f
  rw [quarters_eq h (by omega), Option.bind_some, rwhole0 h.c, Option.bind_some, rwhole0 h.d, Option.bind_some, if_neg (by omega), if_pos rfl, vivariumref05_parts.j0]
  cases f
  · rfl
  · show (some (wrap64 (n + 4), 0, 0, true) : Option _) = _
    rw [w64 (by omega)]
    rfl
theorem rNear_eq {x : Int} (hx : -1099511627776 ≤ x ∧ x ≤ 1099511627776) : vivariumref05_Near.f x = some true := by
  unfold vivariumref05_Near.f
  rw [if_pos (by omega), decide_eq_true hx.2]
theorem linear_eq {u v n : Int} (h : Qt u v n) (f : Bool) {x y : Int} (hx : -1099511627776 ≤ x ∧ x ≤ 1099511627776) (hy : -1099511627776 ≤ y ∧ y ≤ 1099511627776) {k : Nat} (hk : 6 ≤ k) :
    vivariumref05_Linear.f k (if f then n + 4 else n) x y = some (go u v f x y) := by
  obtain ⟨j, rfl⟩ : ∃ j, k = j + 1 + 1 + 1 + 1 + 1 := ⟨k - 5, by omega⟩
  have w0 : ∀ z : Int, -1099511627776 ≤ z ∧ z ≤ 1099511627776 → wrap64 (-z) = -z := fun z hz => w64 (by omega)
  have hloop : ∀ (y' : Int), -1099511627776 ≤ y' ∧ y' ≤ 1099511627776 → ∀ N : Int, Int.tmod N 4 = n → vivariumref05_Linear.j0 (j + 1 + 1 + 1 + 1 + 1) N x y' = some (u * x - v * y', u * y' + v * x) := by
    intro y' hy' N hN
    rw [vivariumref05_Linear.j0, vivariumref05_Linear.l0, hN, show wrap64 (0 + 1) = 1 from w64 (by omega), w0 y' hy']
    rcases h with ⟨rfl, rfl, rfl⟩ | ⟨rfl, rfl, rfl⟩ | ⟨rfl, rfl, rfl⟩ | ⟨rfl, rfl, rfl⟩
    · rw [if_neg (by decide)]; simp
    · rw [if_pos (by decide), vivariumref05_Linear.l0, hN, if_neg (by decide)]; simp
    · rw [if_pos (by decide), vivariumref05_Linear.l0, hN, if_pos (by decide), show wrap64 (1 + 1) = 2 from w64 (by omega), vivariumref05_Linear.l0, hN, if_neg (by decide), w0 x hx]; simp
    · rw [if_pos (by decide), vivariumref05_Linear.l0, hN, if_pos (by decide), show wrap64 (1 + 1) = 2 from w64 (by omega), vivariumref05_Linear.l0, hN, if_pos (by decide), show wrap64 (2 + 1) = 3 from w64 (by omega), w0 x hx, vivariumref05_Linear.l0, hN, if_neg (by decide), w0 (-y') (by omega)]; simp
  have hn : 0 ≤ n ∧ n ≤ 3 := by rcases h with ⟨_, _, rfl⟩ | ⟨_, _, rfl⟩ | ⟨_, _, rfl⟩ | ⟨_, _, rfl⟩ <;> omega
  unfold vivariumref05_Linear.f go
  cases f
  · simp only [Bool.false_eq_true, if_false]
    rw [if_neg (by omega)]
    exact hloop y hy n (by rw [Int.tmod_eq_emod_of_nonneg (by omega)]; omega)
  · simp only [if_true]
    rw [if_pos (by omega), w0 y hy]
    exact hloop (-y) (by omega) (n + 4) (by rw [Int.tmod_eq_emod_of_nonneg (by omega)]; omega)
theorem rat_eq {tr mv : Nat × Nat} {u v n : Int} (h : Lm tr mv u v n) (f : Bool) {x y : Int} (hx : -1099511627776 ≤ x ∧ x ≤ 1099511627776) (hy : -1099511627776 ≤ y ∧ y ≤ 1099511627776) {k : Nat} (hk : 8 ≤ k) :
    vivariumref05_At.f k tr f mv x y = some ((go u v f x y).1, (go u v f x y).2, 0) := by
  obtain ⟨j, rfl⟩ : ∃ j, k = j + 1 := ⟨k - 1, by omega⟩
  have hg := go_near (f := f) h.q hx hy
  unfold vivariumref05_At.f
  rw [parts_eq h f (by omega), Option.bind_some, if_pos rfl, rNear_eq hx, Option.bind_some, if_pos rfl, rNear_eq hy, Option.bind_some, vivariumref05_At.j0, if_neg (by decide), linear_eq h.q f hx hy (by omega), Option.bind_some]
  show (vivariumref05_Near.f (wrap64 ((go u v f x y).1 + 0))).bind _ = _
  rw [Int.add_zero, w64 (by omega), rNear_eq ⟨hg.1, hg.2.1⟩, Option.bind_some, if_pos rfl]
  show (vivariumref05_Near.f (wrap64 ((go u v f x y).2 + 0))).bind _ = _
  rw [Int.add_zero, w64 (x := (go u v f x y).2) (by omega), rNear_eq ⟨hg.2.2.1, hg.2.2.2⟩, Option.bind_some, if_pos rfl]
end Go.Proofs.Ytocijdlbpablkaa.Sb
/- Turned shapes: the program's and the document's are one list. -/
namespace Go.Proofs.Ytocijdlbpablkaa.Sb
open Go.RowKit Go.Proofs.YtocijdlbpablkaaW.PrintWords Go.Proofs.YtocijdlbpablkaaW.XWords Go.Proofs.YtocijdlbpablkaaW.XI
set_option linter.unusedVariables false
set_option linter.unusedSectionVars false

theorem list_ext {a b : List S61} (hl : a.length = b.length) (hv : ∀ p, p < a.length → V a p = V b p) : a = b := by
  apply List.ext_getElem hl
  intro i h1 h2
  have := hv i h1
  rwa [V_eq h1, V_eq h2] at this
def mapc (u v : Int) (f : Bool) (c : S61) : S61 := ⟨(go u v f c.f0 c.f1).1, (go u v f c.f0 c.f1).2, c.f2⟩
def sh (x y : Int) (c : S61) : S61 := ⟨wrap64 (c.f0 - x), wrap64 (c.f1 - y), c.f2⟩
def nears (l : List S61) : Prop := ∀ c ∈ l, near c
theorem nears_V {l : List S61} (h : nears l) {i : Nat} (hi : i < l.length) : near (V l i) := by rw [V_eq hi]; exact h _ (List.getElem_mem hi)
theorem take_map {β : Type} (g : S61 → β) (l : List S61) {i : Nat} (hi : i < l.length) : (l.take i).map g ++ [g (V l i)] = (l.take (i + 1)).map g := by
  rw [List.take_succ_eq_append_getElem hi, List.map_append, V_eq hi]
  rfl
section
variable {tr mv : Nat × Nat} {u v n : Int} (h : Lm tr mv u v n) (f : Bool) (l : List S61) (hl : l.length ≤ 16384) (hn : nears l)
include h hl hn
theorem at_V {i : Nat} (hi : i < l.length) : iso_At.f tr f mv (V l i).f0 (V l i).f1 = some ((mapc u v f (V l i)).f0, (mapc u v f (V l i)).f1, 0) := by
  have hc := nears_V hn hi
  unfold near at hc
  exact at_eq h f ⟨hc.1, hc.2.1⟩ ⟨hc.2.2.1, hc.2.2.2⟩
theorem rat_V {i : Nat} (hi : i < l.length) {k : Nat} (hk : 8 ≤ k) : vivariumref05_At.f k tr f mv (V l i).f0 (V l i).f1 = some ((mapc u v f (V l i)).f0, (mapc u v f (V l i)).f1, 0) := by
  have hc := nears_V hn hi
  unfold near at hc
  exact rat_eq h f ⟨hc.1, hc.2.1⟩ ⟨hc.2.2.1, hc.2.2.2⟩ hk
theorem lay_ev (r : List S61 × (Nat × Nat) × Bool × (Nat × Nat)) (K : Nat) (hr : ∀ k, K ≤ k → ((shape_box.f k (l.map (mapc u v f))).bind fun bt => shape_turned.l1 k (l.map (mapc u v f)) ((l.map (mapc u v f)).length : Int) 0 tr f mv bt.1 bt.2.1 bt.2.2.1 bt.2.2.2) = some r) :
    ∀ (d i : Nat), i + d = l.length → ∀ k, K + d + 1 ≤ k → shape_turned.l0 k ((l.take i).map (mapc u v f)) l (l.length : Int) i tr f mv = some r := by
  intro d
  induction d with
  | zero =>
    intro i hd k hk
    obtain ⟨k, rfl⟩ : ∃ m, k = m + 1 := ⟨k - 1, by omega⟩
    obtain rfl : i = l.length := by omega
    rw [shape_turned.l0, if_neg (Int.lt_irrefl _), List.take_length]
    exact hr k (by omega)
  | succ d ih =>
    intro i hd k hk
    obtain ⟨k, rfl⟩ : ∃ m, k = m + 1 := ⟨k - 1, by omega⟩
    have q1 : i < l.length := by omega
    have q2 : i < 4611686018427387904 := by omega
    have q3 : ((l.take i).map (mapc u v f)).length < 5864062014805 := by rw [List.length_map, List.length_take]; omega
    rw [shape_turned.l0, if_pos (Int.ofNat_lt.2 q1), if_pos (Int.natCast_nonneg _), if_pos (Int.ofNat_lt.2 q1), rd_V, at_V h f l hl hn q1, Option.bind_some, if_pos q3, w64_succ q2]
    show shape_turned.l0 k ((l.take i).map (mapc u v f) ++ [mapc u v f (V l i)]) l (l.length : Int) (i + 1 : Nat) tr f mv = _
    rw [take_map (mapc u v f) l q1]
    exact ih (i + 1) (by omega) k (by omega)
theorem rlay_ev (r : List S61 × Int × Int) (K : Nat) (hr : ∀ k, K ≤ k → ((vivariumref24_box.f k (l.map (mapc u v f))).bind fun bt => vivariumref24_turned.l1 k (l.map (mapc u v f)) 0 bt.1 bt.2.1 bt.2.2.1 bt.2.2.2) = some r) :
    ∀ (d i : Nat), i + d = l.length → ∀ k, K + d + 9 ≤ k → vivariumref24_turned.l0 k l ((l.take i).map (mapc u v f)) i tr f mv = some r := by
  intro d
  induction d with
  | zero =>
    intro i hd k hk
    obtain ⟨k, rfl⟩ : ∃ m, k = m + 1 := ⟨k - 1, by omega⟩
    obtain rfl : i = l.length := by omega
    rw [vivariumref24_turned.l0, if_neg (Int.lt_irrefl _), List.take_length]
    exact hr k (by omega)
  | succ d ih =>
    intro i hd k hk
    obtain ⟨k, rfl⟩ : ∃ m, k = m + 1 := ⟨k - 1, by omega⟩
    have q1 : i < l.length := by omega
    have q2 : i < 4611686018427387904 := by omega
    have q3 : ((l.take i).map (mapc u v f)).length < 5864062014805 := by rw [List.length_map, List.length_take]; omega
    rw [vivariumref24_turned.l0, if_pos (Int.ofNat_lt.2 q1), if_pos (Int.natCast_nonneg _), rd_V, rat_V h f l hl hn q1 (by omega), Option.bind_some, if_pos q3, w64_succ q2]
    show vivariumref24_turned.l0 k l ((l.take i).map (mapc u v f) ++ [mapc u v f (V l i)]) (i + 1 : Nat) tr f mv = _
    rw [take_map (mapc u v f) l q1]
    exact ih (i + 1) (by omega) k (by omega)
end
/-- A cell moved in place. -/
theorem move_eq (x : List S61) (i : Nat) (hi : i < x.length) (rx ry : Int) :
    ((x.set ((i : Int)).toNat (⟨wrap64 ((V x i).f0 - rx), (V x i).f1, (V x i).f2⟩ : S61)).set ((i : Int)).toNat (⟨(V (x.set ((i : Int)).toNat (⟨wrap64 ((V x i).f0 - rx), (V x i).f1, (V x i).f2⟩ : S61)) i).f0, wrap64 ((V (x.set ((i : Int)).toNat (⟨wrap64 ((V x i).f0 - rx), (V x i).f1, (V x i).f2⟩ : S61)) i).f1 - ry), (V (x.set ((i : Int)).toNat (⟨wrap64 ((V x i).f0 - rx), (V x i).f1, (V x i).f2⟩ : S61)) i).f2⟩ : S61)) = x.set i (sh rx ry (V x i)) := by
  rw [Int.toNat_natCast, V_set _ _ _ _ hi, if_pos rfl, List.set_set]
  rfl
theorem home_ev (tr : Nat × Nat) (f : Bool) (mv : Nat × Nat) (rx ry rz rw' : Int) (n : Nat) (hnl : n ≤ 16384) : ∀ (d i : Nat) (x : List S61), i + d = n → x.length = n →
    ∃ R, R.length = n ∧ (∀ p, V R p = if i ≤ p ∧ p < n then sh rx ry (V x p) else V x p) ∧
      (∀ r, Ev (fun k => (shape_sorted.f k R).bind fun t => some (t, tr, f, (floatOfInt .f64 (wrap64 (-rx)), floatOfInt .f64 (wrap64 (-ry))))) r → Ev (fun k => shape_turned.l1 k x (n : Int) i tr f mv rx ry rz rw') r) ∧
      (∀ r, Ev (fun k => (vivariumref24_Sorted.f k R).bind fun t => some (t, wrap64 (-rx), wrap64 (-ry))) r → Ev (fun k => vivariumref24_turned.l1 k x i rx ry rz rw') r) := by
  intro d
  induction d with
  | zero =>
    intro i x hd hx
    obtain rfl : i = n := by omega
    refine ⟨x, hx, fun p => by rw [if_neg (by omega)], ?_, ?_⟩
    · rintro r ⟨K, h⟩
      refine ⟨K + 1, fun k hk => ?_⟩
      obtain ⟨k, rfl⟩ : ∃ m, k = m + 1 := ⟨k - 1, by omega⟩
      show shape_turned.l1 (k + 1) x (i : Int) i tr f mv rx ry rz rw' = _
      rw [shape_turned.l1, if_neg (Int.lt_irrefl _)]
      exact h k (by omega)
    · rintro r ⟨K, h⟩
      refine ⟨K + 1, fun k hk => ?_⟩
      obtain ⟨k, rfl⟩ : ∃ m, k = m + 1 := ⟨k - 1, by omega⟩
      show vivariumref24_turned.l1 (k + 1) x i rx ry rz rw' = _
      rw [vivariumref24_turned.l1, hx, if_neg (Int.lt_irrefl _)]
      exact h k (by omega)
  | succ d ih =>
    intro i x hd hx
    have q1 : i < n := by omega
    have q0 : i < x.length := by omega
    have q2 : i < 4611686018427387904 := by omega
    obtain ⟨R, g1, g2, g3, g4⟩ := ih (i + 1) (x.set i (sh rx ry (V x i))) (by omega) (by rw [List.length_set]; exact hx)
    refine ⟨R, g1, fun p => ?_, fun r hr => ?_, fun r hr => ?_⟩
    · rw [g2 p, V_set _ _ _ _ q0]
      by_cases c1 : p = i
      · subst c1
        rw [if_neg (by omega), if_pos rfl, if_pos (by omega)]
      · rw [if_neg c1]
        by_cases c2 : i + 1 ≤ p ∧ p < n
        · rw [if_pos c2, if_pos (by omega)]
        · rw [if_neg c2, if_neg (by omega)]
    · obtain ⟨K, h⟩ := g3 r hr
      refine ⟨K + 1, fun k hk => ?_⟩
      obtain ⟨k, rfl⟩ : ∃ m, k = m + 1 := ⟨k - 1, by omega⟩
      have h' := h k (by omega)
      show shape_turned.l1 (k + 1) x (n : Int) i tr f mv rx ry rz rw' = _
      rw [shape_turned.l1, if_pos (Int.ofNat_lt.2 q1), if_pos (Int.natCast_nonneg _), if_pos (Int.ofNat_lt.2 q0), rd_V, w64_succ q2]
      show (some _).bind _ = _
      rw [Option.bind_some, rd_V, move_eq x i q0]
      exact h'
    · obtain ⟨K, h⟩ := g4 r hr
      refine ⟨K + 1, fun k hk => ?_⟩
      obtain ⟨k, rfl⟩ : ∃ m, k = m + 1 := ⟨k - 1, by omega⟩
      have h' := h k (by omega)
      show vivariumref24_turned.l1 (k + 1) x i rx ry rz rw' = _
      rw [vivariumref24_turned.l1, if_pos (Int.ofNat_lt.2 q0), if_pos (Int.natCast_nonneg _), rd_V, w64_succ q2]
      show (some _).bind _ = _
      rw [Option.bind_some, rd_V, move_eq x i q0]
      exact h'
theorem bxF_near {l : List S61} (hn : nears l) : ∀ (d i : Nat), i + d = l.length → ∀ (a b c e : Int), (-1099511627776 ≤ a ∧ a ≤ 1099511627776) → (-1099511627776 ≤ b ∧ b ≤ 1099511627776) →
    (-1099511627776 ≤ (bxF l i d a b c e).1 ∧ (bxF l i d a b c e).1 ≤ 1099511627776) ∧ (-1099511627776 ≤ (bxF l i d a b c e).2.1 ∧ (bxF l i d a b c e).2.1 ≤ 1099511627776) := by
  intro d
  induction d with
  | zero => intro i hd a b c e ha hb; exact ⟨ha, hb⟩
  | succ d ih =>
    intro i hd a b c e ha hb
    rw [bxF]
    have hc := nears_V hn (show i < l.length by omega)
    unfold near at hc
    refine ih (i + 1) (by omega) _ _ _ _ ?_ ?_
    · unfold mn; split <;> omega
    · unfold mn; split <;> omega
theorem bx_near {l : List S61} (hn : nears l) : (-1099511627776 ≤ (bx l).1 ∧ (bx l).1 ≤ 1099511627776) ∧ (-1099511627776 ≤ (bx l).2.1 ∧ (bx l).2.1 ≤ 1099511627776) := by
  unfold bx
  by_cases h : l.length = 0
  · rw [if_pos h]; simp
  · rw [if_neg h]
    have hc := nears_V hn (show 0 < l.length by omega)
    unfold near at hc
    exact bxF_near hn (l.length - 1) 1 (by omega) _ _ _ _ ⟨hc.1, hc.2.1⟩ ⟨hc.2.2.1, hc.2.2.2⟩
theorem chk_nears {l : List S61} (h : chk l = 0) : nears l := by
  intro c hc
  obtain ⟨i, hi, rfl⟩ := List.getElem_of_mem hc
  have := ((chk_ok h).2 i hi).1
  rwa [V_eq hi] at this
theorem mapc_near {u v n : Int} (hq : Qt u v n) (f : Bool) {c : S61} (hc : near c) : near (mapc u v f c) := by
  unfold near at hc ⊢
  exact go_near hq ⟨hc.1, hc.2.1⟩ ⟨hc.2.2.1, hc.2.2.2⟩
/-- A shape turned and moved home, by both. -/
theorem turned_ev {tr mv tr' mv' : Nat × Nat} {u v n : Int} {a : Int} {e e' : Int} (f : Bool) (hp : iso_Part.f a = some (tr, f, mv, e)) (h : Lm tr mv u v n) (hp' : vivariumref05_Part.f a = some (tr', f, mv', e')) (h' : Lm tr' mv' u v n) {l : List S61} (hc : chk l = 0) :
    ∃ s, s.length = l.length ∧ Ev (fun k => shape_turned.f k l a) (s, tr, f, (floatOfInt .f64 (wrap64 (-(bx (l.map (mapc u v f))).1)), floatOfInt .f64 (wrap64 (-(bx (l.map (mapc u v f))).2.1)))) ∧
      Ev (fun k => vivariumref24_turned.f k l a) (s, wrap64 (-(bx (l.map (mapc u v f))).1), wrap64 (-(bx (l.map (mapc u v f))).2.1)) := by
  have hl := (chk_ok hc).1
  have hn := chk_nears hc
  obtain ⟨m, hm⟩ : ∃ m, m = l.map (mapc u v f) := ⟨_, rfl⟩
  have lm : m.length = l.length := by rw [hm, List.length_map]
  have nm : nears m := by
    intro c hc
    rw [hm] at hc
    obtain ⟨b, hb, rfl⟩ := List.mem_map.1 hc
    exact mapc_near h.q f (hn b hb)
  have hb := bx_near nm
  obtain ⟨R, g1, g2, g3, g4⟩ := home_ev tr f mv (bx m).1 (bx m).2.1 (bx m).2.2.1 (bx m).2.2.2 m.length (by omega) m.length 0 m (Nat.zero_add _) rfl
  have hR : R = m.map (sh (bx m).1 (bx m).2.1) := by
    refine list_ext (by rw [g1, List.length_map]) fun p hp => ?_
    rw [g1] at hp
    rw [g2 p, if_pos ⟨Nat.zero_le _, hp⟩, V_eq (xs := m.map (sh (bx m).1 (bx m).2.1)) (by rw [List.length_map]; exact hp), List.getElem_map, V_eq hp]
  have hinj : Inj R := by
    intro x hx y hy e1 e2
    rw [hR] at hx hy
    obtain ⟨x1, hx1, rfl⟩ := List.mem_map.1 hx
    obtain ⟨y1, hy1, rfl⟩ := List.mem_map.1 hy
    have n1 := nm x1 hx1
    have n2 := nm y1 hy1
    rw [hm] at hx1 hy1
    obtain ⟨x2, hx2, rfl⟩ := List.mem_map.1 hx1
    obtain ⟨y2, hy2, rfl⟩ := List.mem_map.1 hy1
    unfold near at n1 n2
    have key : ∀ A B : S61, (-1099511627776 ≤ A.f0 ∧ A.f0 ≤ 1099511627776 ∧ -1099511627776 ≤ A.f1 ∧ A.f1 ≤ 1099511627776) → (-1099511627776 ≤ B.f0 ∧ B.f0 ≤ 1099511627776 ∧ -1099511627776 ≤ B.f1 ∧ B.f1 ≤ 1099511627776) →
        wrap64 (A.f0 - (bx m).1) = wrap64 (B.f0 - (bx m).1) → wrap64 (A.f1 - (bx m).2.1) = wrap64 (B.f1 - (bx m).2.1) → A.f0 = B.f0 ∧ A.f1 = B.f1 := by
      intro A B hA hB q1 q2
      rw [w64 (by omega), w64 (by omega)] at q1 q2
      omega
    obtain ⟨f0, f1⟩ := key _ _ n1 n2 e1 e2
    have f0 : (go u v f x2.f0 x2.f1).1 = (go u v f y2.f0 y2.f1).1 := f0
    have f1 : (go u v f x2.f0 x2.f1).2 = (go u v f y2.f0 y2.f1).2 := f1
    have : x2 = y2 := by
      refine chk_inj hc x2 hx2 y2 hy2 ?_ ?_
      · unfold go at f0 f1
        rcases h.q with ⟨rfl, rfl, _⟩ | ⟨rfl, rfl, _⟩ | ⟨rfl, rfl, _⟩ | ⟨rfl, rfl, _⟩ <;> cases f <;> simp at f0 f1 <;> omega
      · unfold go at f0 f1
        rcases h.q with ⟨rfl, rfl, _⟩ | ⟨rfl, rfl, _⟩ | ⟨rfl, rfl, _⟩ | ⟨rfl, rfl, _⟩ <;> cases f <;> simp at f0 f1 <;> omega
    rw [this]
  obtain ⟨s, ⟨K1, s1⟩, ⟨K2, s2⟩, hpm, _⟩ := sorts_ev R (by omega) hinj
  obtain ⟨K3, s3⟩ := g3 (s, tr, f, (floatOfInt .f64 (wrap64 (-(bx m).1)), floatOfInt .f64 (wrap64 (-(bx m).2.1)))) ⟨K1, fun k hk => by
    show (shape_sorted.f k R).bind _ = _
    rw [show shape_sorted.f k R = some s from s1 k hk, Option.bind_some]⟩
  obtain ⟨K4, s4⟩ := g4 (s, wrap64 (-(bx m).1), wrap64 (-(bx m).2.1)) ⟨K2, fun k hk => by
    show (vivariumref24_Sorted.f k R).bind _ = _
    rw [show vivariumref24_Sorted.f k R = some s from s2 k hk, Option.bind_some]⟩
  rw [← hm]
  refine ⟨s, by rw [hpm.length_eq, g1, lm], ⟨K3 + m.length + l.length + 30, fun k hk => ?_⟩, ⟨K4 + m.length + l.length + 30, fun k hk => ?_⟩⟩
  · show shape_turned.f k l a = _
    unfold shape_turned.f
    have z1 : (0 : Int) ≤ (l.length : Int) := Int.natCast_nonneg _
    have z2 : ((l.length : Int)).toNat ≤ 11728124029610 := by omega
    rw [hp, Option.bind_some, if_pos z1, if_pos z2]
    refine lay_ev h f l hl hn _ (K3 + m.length + 20) (fun k hk => ?_) l.length 0 (Nat.zero_add _) k (by omega)
    rw [← hm, box_eq m (by omega) (by omega), Option.bind_some]
    exact s3 k (by omega)
  · show vivariumref24_turned.f k l a = _
    unfold vivariumref24_turned.f
    rw [hp', Option.bind_some]
    refine rlay_ev h' f l hl hn _ (K4 + m.length + 10) (fun k hk => ?_) l.length 0 (Nat.zero_add _) k (by omega)
    rw [← hm, rbox_eq m (by omega) (by omega), Option.bind_some]
    exact s4 k (by omega)
end Go.Proofs.Ytocijdlbpablkaa.Sb
/- For any two shapes the law answers true, as the walk reckons it. -/
namespace Go.Proofs.Ytocijdlbpablkaa.Sb
open Go.RowKit Go.Proofs.YtocijdlbpablkaaW.PrintWords Go.Proofs.YtocijdlbpablkaaW.XWords Go.Proofs.YtocijdlbpablkaaW.XI
set_option linter.unusedVariables false

theorem part0 : iso_Part.f 0 = some ((4607182418800017408, 0), false, (0, 0), 0) := by decide +kernel
theorem rpart0 : vivariumref05_Part.f 0 = some ((4607182418800017408, 0), false, (0, 0), 0) := by decide +kernel
theorem lm0 : Lm (4607182418800017408, 0) (0, 0) 1 0 0 := ⟨isI_1, isI_0, isI_0, isI_0, .inl ⟨rfl, rfl, rfl⟩⟩
def nq (a b : S61) : Bool := !(a.f0 == b.f0) || (!(a.f1 == b.f1) || !(a.f2 == b.f2))
theorem nq_comm (a b : S61) : nq a b = nq b a := by
  unfold nq
  rw [Bool.beq_comm (a := a.f0), Bool.beq_comm (a := a.f1), Bool.beq_comm (a := a.f2)]
def sameF (a b : List S61) : Nat → Nat → Bool
  | _, 0 => true
  | i, d + 1 => if nq (V a i) (V b i) = true then false else sameF a b (i + 1) d
theorem sameF_comm (a b : List S61) : ∀ d i, sameF a b i d = sameF b a i d := by
  intro d
  induction d with
  | zero => intro i; rfl
  | succ d ih => intro i; rw [sameF, sameF, nq_comm, ih]
def same (a b : List S61) : Bool := if a.length = b.length then sameF a b 0 a.length else false
theorem same_comm (a b : List S61) : same a b = same b a := by
  unfold same
  by_cases h : a.length = b.length
  · rw [if_pos h, if_pos h.symm, sameF_comm, h]
  · rw [if_neg h, if_neg (fun q => h q.symm)]
theorem eq_loop (a b : List S61) (hl : a.length = b.length) (hb : a.length ≤ 4611686018427387900) : ∀ (d i : Nat), i + d = a.length → ∀ k, d + 1 ≤ k → api_Cell_40.l0 k a b (a.length : Int) i = some (sameF a b i d) := by
  intro d
  induction d with
  | zero =>
    intro i hd k hk
    obtain ⟨k, rfl⟩ : ∃ m, k = m + 1 := ⟨k - 1, by omega⟩
    obtain rfl : i = a.length := by omega
    rw [api_Cell_40.l0, if_neg (Int.lt_irrefl _)]
    rfl
  | succ d ih =>
    intro i hd k hk
    obtain ⟨k, rfl⟩ : ∃ m, k = m + 1 := ⟨k - 1, by omega⟩
    have q1 : i < a.length := by omega
    have q2 : i < b.length := by omega
    have q3 : i < 4611686018427387904 := by omega
    rw [api_Cell_40.l0, if_pos (Int.ofNat_lt.2 q1), if_pos (Int.natCast_nonneg _), if_pos (Int.ofNat_lt.2 q1), if_pos (Int.ofNat_lt.2 q2), rd_V, rd_V, w64_succ q3, ih (i + 1) (by omega) k (by omega), sameF]
    show (if nq (V a i) (V b i) = true then some false else _) = _
    by_cases c : nq (V a i) (V b i) = true
    · rw [if_pos c, if_pos c]
    · rw [if_neg c, if_neg c]
theorem eq_eq (a b : List S61) (hb : a.length ≤ 4611686018427387900) {k : Nat} (hk : a.length + 1 ≤ k) : api_Cell_40.f k a b = some (same a b) := by
  unfold api_Cell_40.f same
  by_cases h : a.length = b.length
  · rw [if_pos h, if_pos (by omega)]
    exact eq_loop a b h hb a.length 0 (Nat.zero_add _) k hk
  · rw [if_neg h, if_neg (by omega)]
theorem req_loop (a b : List S61) (hl : a.length = b.length) (hb : a.length ≤ 4611686018427387900) : ∀ (d i : Nat), i + d = a.length → ∀ k, d + 1 ≤ k → vivariumref24_Same.l0 k a b i = some (sameF a b i d) := by
  intro d
  induction d with
  | zero =>
    intro i hd k hk
    obtain ⟨k, rfl⟩ : ∃ m, k = m + 1 := ⟨k - 1, by omega⟩
    obtain rfl : i = a.length := by omega
    rw [vivariumref24_Same.l0, if_neg (Int.lt_irrefl _)]
    rfl
  | succ d ih =>
    intro i hd k hk
    obtain ⟨k, rfl⟩ : ∃ m, k = m + 1 := ⟨k - 1, by omega⟩
    have q1 : i < a.length := by omega
    have q2 : i < b.length := by omega
    have q3 : i < 4611686018427387904 := by omega
    rw [vivariumref24_Same.l0, if_pos (Int.ofNat_lt.2 q1), if_pos (Int.natCast_nonneg _), if_pos (Int.ofNat_lt.2 q2), rd_V, rd_V, w64_succ q3, ih (i + 1) (by omega) k (by omega), sameF]
    show (if nq (V a i) (V b i) = true then some false else _) = _
    by_cases c : nq (V a i) (V b i) = true
    · rw [if_pos c, if_pos c]
    · rw [if_neg c, if_neg c]
theorem req_eq (a b : List S61) (hb : a.length ≤ 4611686018427387900) {k : Nat} (hk : a.length + 1 ≤ k) : vivariumref24_Same.f k a b = some (same a b) := by
  unfold vivariumref24_Same.f same
  by_cases h : a.length = b.length
  · rw [if_pos h, if_pos (by omega)]
    exact req_loop a b h hb a.length 0 (Nat.zero_add _) k hk
  · rw [if_neg h, if_neg (by omega)]
/-- Whether two shapes are alike, by both, and the other way round. -/
theorem alike_ev (a b : List S61) : ∃ v : Bool × Int, Ev (fun k => vivariumref24_Alike.f k a b) v ∧ Ev (fun k => shape_Alike.f k a b) v ∧ Ev (fun k => shape_Alike.f k b a) v := by
  by_cases ha : chk a = 0
  · by_cases hb : chk b = 0
    · obtain ⟨s, ls, ⟨K1, p1⟩, ⟨K2, r1⟩⟩ := turned_ev false part0 lm0 rpart0 lm0 ha
      obtain ⟨t, lt, ⟨K3, p2⟩, ⟨K4, r2⟩⟩ := turned_ev false part0 lm0 rpart0 lm0 hb
      have la := (chk_ok ha).1
      have lb := (chk_ok hb).1
      refine ⟨(same s t, 0), ⟨K2 + K4 + 40000, fun k hk => ?_⟩, ⟨K1 + K3 + 40000, fun k hk => ?_⟩, ⟨K1 + K3 + 40000, fun k hk => ?_⟩⟩
      · obtain ⟨k, rfl⟩ : ∃ m, k = m + 1 := ⟨k - 1, by omega⟩
        show vivariumref24_Alike.f (k + 1) a b = _
        unfold vivariumref24_Alike.f
        rw [rcheck_eq a (by omega), Option.bind_some, if_pos ha, rcheck_eq b (by omega), Option.bind_some, hb, vivariumref24_Alike.j0, if_neg (by decide),
          show vivariumref24_turned.f k a 0 = _ from r1 k (by omega), Option.bind_some, show vivariumref24_turned.f k b 0 = _ from r2 k (by omega), Option.bind_some, req_eq s t (by omega) (by omega), Option.bind_some]
      · show shape_Alike.f k a b = _
        unfold shape_Alike.f
        rw [refused2_eq a b (by omega), Option.bind_some, if_neg (by simp [ha, hb]),
          show shape_turned.f k a 0 = _ from p1 k (by omega), Option.bind_some, show shape_turned.f k b 0 = _ from p2 k (by omega), Option.bind_some, eq_eq s t (by omega) (by omega), Option.bind_some]
      · show shape_Alike.f k b a = _
        unfold shape_Alike.f
        rw [refused2_eq b a (by omega), Option.bind_some, if_neg (by simp [ha, hb]),
          show shape_turned.f k b 0 = _ from p2 k (by omega), Option.bind_some, show shape_turned.f k a 0 = _ from p1 k (by omega), Option.bind_some, eq_eq t s (by omega) (by omega), Option.bind_some, same_comm t s]
    · refine ⟨(false, 240), ⟨40000, fun k hk => ?_⟩, ⟨40000, fun k hk => ?_⟩, ⟨40000, fun k hk => ?_⟩⟩
      · obtain ⟨k, rfl⟩ : ∃ m, k = m + 1 := ⟨k - 1, by omega⟩
        show vivariumref24_Alike.f (k + 1) a b = _
        unfold vivariumref24_Alike.f
        rw [rcheck_eq a (by omega), Option.bind_some, if_pos ha, rcheck_eq b (by omega), Option.bind_some, vivariumref24_Alike.j0, if_pos (bne_iff_ne.2 hb)]
      · show shape_Alike.f k a b = _
        unfold shape_Alike.f
        rw [refused2_eq a b (by omega), Option.bind_some, if_pos (by simp [hb])]
      · show shape_Alike.f k b a = _
        unfold shape_Alike.f
        rw [refused2_eq b a (by omega), Option.bind_some, if_pos (by simp [hb])]
  · refine ⟨(false, 240), ⟨40000, fun k hk => ?_⟩, ⟨40000, fun k hk => ?_⟩, ⟨40000, fun k hk => ?_⟩⟩
    · obtain ⟨k, rfl⟩ : ∃ m, k = m + 1 := ⟨k - 1, by omega⟩
      show vivariumref24_Alike.f (k + 1) a b = _
      unfold vivariumref24_Alike.f
      rw [rcheck_eq a (by omega), Option.bind_some, if_neg ha, vivariumref24_Alike.j0, if_pos rfl]
    · show shape_Alike.f k a b = _
      unfold shape_Alike.f
      rw [refused2_eq a b (by omega), Option.bind_some, if_pos (by simp [ha])]
    · show shape_Alike.f k b a = _
      unfold shape_Alike.f
      rw [refused2_eq b a (by omega), Option.bind_some, if_pos (by simp [ha])]
set_option maxRecDepth 100000 in
theorem awake60 : vivariumlaw24_awake.f 60 = some true := by decide +kernel
theorem awake_at {k : Nat} (hk : 60 ≤ k) : vivariumlaw24_awake.f k = some true := by
  obtain ⟨d, rfl⟩ : ∃ d, k = 60 + d := ⟨k - 60, by omega⟩
  induction d with
  | zero => exact awake60
  | succ d ih => exact vivariumlaw24_awake.mono _ _ (ih (by omega))
theorem law (a b : List S61) : ∃ k, vivariumlaw24_ShapeAlike.f k a b = some true := by
  obtain ⟨v, ⟨K1, h1⟩, ⟨K2, h2⟩, ⟨K3, h3⟩⟩ := alike_ev a b
  refine ⟨K1 + K2 + K3 + 100 + 1, ?_⟩
  have hj : ∀ x, vivariumlaw24_ShapeAlike.j0 (K1 + K2 + K3 + 100 + 1) true x a b = some true := by
    intro x
    rw [vivariumlaw24_ShapeAlike.j0]
    by_cases hx : x = true
    · rw [if_pos hx]
    · rw [if_neg hx, show vivariumref24_Alike.f _ a b = _ from h1 _ (by omega), Option.bind_some, show shape_Alike.f _ a b = _ from h2 _ (by omega), Option.bind_some, show shape_Alike.f _ b a = _ from h3 _ (by omega), Option.bind_some]
      simp
  unfold vivariumlaw24_ShapeAlike.f vivariumlaw24_large.f
  rw [awake_at (by omega), Option.bind_some, Option.bind_some, Option.bind_some, hj, hj]
  split <;> rfl
end Go.Proofs.Ytocijdlbpablkaa.Sb
