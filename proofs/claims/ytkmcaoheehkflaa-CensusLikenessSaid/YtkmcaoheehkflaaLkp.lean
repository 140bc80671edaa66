/- What the walk of CensusLikeness computes is always true. -/
import Derived.Test.YtkmcaoheehkflaaLk3
import Derived.Test.YtkmcaoheehkflaaXF
namespace Go.Proofs.Ytkmcaoheehkflaa.Lk
open Go.RowKit Go.Proofs.YtkmcaoheehkflaaW.PrintWords Go.Proofs.YtkmcaoheehkflaaW.XWords Go.Proofs.XF Ieee
set_option exponentiation.threshold 3000
set_option linter.unusedVariables false
set_option linter.unusedSimpArgs false

theorem order_self (x : Nat) : double.order x x = some .eq ∨ ∀ y, double.order x y = none := by
  unfold Format.order
  cases h : double.read x with
  | nan s f => right; intro y; simp [Datum.order]
  | infinity s => left; cases s <;> rfl
  | number s m p =>
    left
    simp only [Datum.order]
    rw [cmp_eq rfl]

theorem usual_small (x : Nat) : census_usual.f x = vivariumref28_small.f x := by
  unfold census_usual.f vivariumref28_small.f
  rcases order_self x with h | h
  · have : fEq x x = true := by unfold fEq; show (double.order x x == some .eq) = true; rw [h]; rfl
    rw [if_pos this]
    cases fGe x 14010698440749613056 <;> cases fLe x 4787326403894837248 <;> rfl
  · have h1 : fEq x x = false := by unfold fEq; show (double.order x x == some .eq) = false; rw [h]; rfl
    have h2 : fGe x 14010698440749613056 = false := by unfold fGe; show (double.order x _ == some .gt || double.order x _ == some .eq) = false; rw [h]; rfl
    rw [h1, h2]
    rfl

/-- A finite word of at most B units. -/
def Sm (x B : Nat) : Prop := ∃ s M, fin x = some (s, M) ∧ M ≤ B
/-- .. not negative. -/
def Sp (x B : Nat) : Prop := ∃ M, fin x = some (false, M) ∧ M ≤ B
theorem Sp.sm {x B : Nat} (h : Sp x B) : Sm x B := by obtain ⟨M, h, hb⟩ := h; exact ⟨false, M, h, hb⟩
theorem Sm.mono {x B C : Nat} (h : Sm x B) (hc : B ≤ C) : Sm x C := by obtain ⟨s, M, h, hb⟩ := h; exact ⟨s, M, h, Nat.le_trans hb hc⟩
theorem fin_zero : fin 0 = some (false, 0) := by decide +kernel
theorem sp_zero (B : Nat) : Sp 0 B := ⟨0, fin_zero, Nat.zero_le _⟩

theorem fin_hi : fin 4787326403894837248 = some (false, 2 ^ 1114) := by decide +kernel
theorem fin_lo : fin 14010698440749613056 = some (true, 2 ^ 1114) := by decide +kernel

theorem small_sm {x : Nat} (h : vivariumref28_small.f x = some true) : Sm x (2 ^ 1114) := by
  unfold vivariumref28_small.f at h
  have h1 : fGe x 14010698440749613056 = true := by
    cases hc : fGe x 14010698440749613056
    · rw [hc] at h; simp at h
    · rfl
  rw [h1] at h
  have h2 : fLe x 4787326403894837248 = true := by simpa using h
  cases hx : fin x with
  | none =>
    exfalso
    unfold fin at hx
    cases hr : double.read x with
    | number s m p => rw [hr] at hx; cases hx
    | nan s f =>
      have : double.order x 14010698440749613056 = none := by unfold Format.order; rw [hr]; rfl
      simp [fGe, FloatKind.format, this] at h1
    | infinity s =>
      have r1 : double.read 4787326403894837248 = .number false 4503599627370496 (-12) := by decide +kernel
      have r2 : double.read 14010698440749613056 = .number true 4503599627370496 (-12) := by decide +kernel
      cases s
      · have : double.order x 4787326403894837248 = some .gt := by unfold Format.order; rw [hr, r1]; rfl
        simp [fLe, FloatKind.format, this] at h2
      · have : double.order x 14010698440749613056 = some .lt := by unfold Format.order; rw [hr, r2]; rfl
        simp [fGe, FloatKind.format, this] at h1
  | some p =>
    obtain ⟨s, M⟩ := p
    refine ⟨s, M, hx, ?_⟩
    have o1 := order_fin hx fin_hi
    have o2 := order_fin hx fin_lo
    generalize 2 ^ 1114 = B at *
    rcases Nat.lt_or_ge B M with hB | hB
    · exfalso
      cases s
      · have : compare (sgn false M) (sgn false B) = .gt := cmp_gt (by simp [sgn]; omega)
        rw [this] at o1
        simp [fLe, FloatKind.format, o1] at h2
      · have : compare (sgn true M) (sgn true B) = .lt := cmp_lt (by simp [sgn]; omega)
        rw [this] at o2
        simp [fGe, FloatKind.format, o2] at h1
    · exact hB

theorem small_bool (x : Nat) : ∃ b, vivariumref28_small.f x = some b := by
  unfold vivariumref28_small.f
  split <;> exact ⟨_, rfl⟩

theorem add_sm {x y B C c b : Nat} (hx : Sm x B) (hy : Sm y C) (hc : c ≤ 2 ^ 53) (h : B + C ≤ c * 2 ^ b) (hf : c * 2 ^ b < 2 ^ 2098) : ∃ r, fAdd x y = some r ∧ Sm r (c * 2 ^ b) := by
  obtain ⟨s, M, hm, hM⟩ := hx
  obtain ⟨t, N, hn, hN⟩ := hy
  obtain ⟨r, u, R, h1, h2, h3, _⟩ := add_fin hm hn hc (Nat.le_trans (Nat.add_le_add hM hN) h) hf
  exact ⟨r, h1, u, R, h2, h3⟩
theorem add_sp {x y B C c b : Nat} (hx : Sp x B) (hy : Sp y C) (hc : c ≤ 2 ^ 53) (h : B + C ≤ c * 2 ^ b) (hf : c * 2 ^ b < 2 ^ 2098) : ∃ r, fAdd x y = some r ∧ Sp r (c * 2 ^ b) := by
  obtain ⟨M, hm, hM⟩ := hx
  obtain ⟨N, hn, hN⟩ := hy
  obtain ⟨r, u, R, h1, h2, h3, h4⟩ := add_fin hm hn hc (Nat.le_trans (Nat.add_le_add hM hN) h) hf
  obtain rfl := h4 rfl rfl
  exact ⟨r, h1, R, h2, h3⟩
theorem sub_sm {x y B C b : Nat} (hx : Sm x B) (hy : Sm y C) (h : B + C ≤ 2 ^ b) (hf : b < 2098) : ∃ r, fSub x y = some r ∧ Sm r (2 ^ b) := by
  obtain ⟨s, M, hm, hM⟩ := hx
  obtain ⟨t, N, hn, hN⟩ := hy
  obtain ⟨r, u, R, h1, h2, h3⟩ := sub_fin (c := 1) (b := b) hm hn (by decide) (by rw [Nat.one_mul]; exact Nat.le_trans (Nat.add_le_add hM hN) h) (by rw [Nat.one_mul]; exact Nat.pow_lt_pow_right (by decide) hf)
  rw [Nat.one_mul] at h3
  exact ⟨r, h1, u, R, h2, h3⟩
theorem mul_sm {x y B C b : Nat} (hx : Sm x (2 ^ B)) (hy : Sm y (2 ^ C)) (h : B + C ≤ b + 1074) (hf : b < 2098) : ∃ r, fMul x y = some r ∧ Sm r (2 ^ b) := by
  obtain ⟨s, M, hm, hM⟩ := hx
  obtain ⟨t, N, hn, hN⟩ := hy
  obtain ⟨r, R, h1, h2, h3, _⟩ := mul_fin (c := 1) (b := b) hm hn (by decide) (by rw [Nat.one_mul, ← Nat.pow_add]; refine Nat.le_trans (Nat.mul_le_mul hM hN) ?_; rw [← Nat.pow_add]; exact Nat.pow_le_pow_right (by decide) h) (by rw [Nat.one_mul]; exact Nat.pow_lt_pow_right (by decide) hf)
  rw [Nat.one_mul] at h3
  exact ⟨r, h1, _, R, h2, h3⟩
theorem sq_sp {x B b : Nat} (hx : Sm x (2 ^ B)) (h : B + B ≤ b + 1074) (hf : b < 2098) : ∃ r, fMul x x = some r ∧ Sp r (2 ^ b) := by
  obtain ⟨s, M, hm, hM⟩ := hx
  obtain ⟨r, R, h1, h2, h3, _⟩ := mul_fin (c := 1) (b := b) hm hm (by decide) (by rw [Nat.one_mul, ← Nat.pow_add]; refine Nat.le_trans (Nat.mul_le_mul hM hM) ?_; rw [← Nat.pow_add]; exact Nat.pow_le_pow_right (by decide) h) (by rw [Nat.one_mul]; exact Nat.pow_lt_pow_right (by decide) hf)
  rw [Nat.one_mul] at h3
  refine ⟨r, h1, R, ?_, h3⟩
  rw [h2]
  cases s <;> rfl

theorem count_fin {n : Nat} (h1 : 1 ≤ n) (hn : n ≤ 2 ^ 53) : ∃ N, fin (floatOfInt .f64 (n : Int)) = some (false, N) ∧ 2 ^ 1074 ≤ N := by
  have e : floatOfInt .f64 (n : Int) = double.nearest false n 0 := by
    show double.nearest (decide ((n : Int) < 0)) (n : Int).natAbs 0 = _
    have h1 : decide ((n : Int) < 0) = false := by simp
    rw [h1]
    rfl
  rw [e]
  obtain ⟨N, g1, g2, g3⟩ := nearest_fin (neg := false) (mag := n) (place := 0) 1074 0 (by omega) (c0 := n) (b0 := 1074) hn (by simp) (by
    refine Nat.lt_of_le_of_lt (Nat.mul_le_mul_right _ hn) ?_
    rw [← Nat.pow_add]
    exact Nat.pow_lt_pow_right (by decide) (by decide))
  refine ⟨N, g1, g3 1074 ?_⟩
  rw [Nat.pow_zero, Nat.mul_one]
  exact Nat.le_mul_of_pos_left _ h1

theorem div_sm {x y b : Nat} (hx : Sm x (2 ^ b)) (hy : ∃ N, fin y = some (false, N) ∧ 2 ^ 1074 ≤ N) (hf : b < 2098) : ∃ r, fQuo x y = some r ∧ Sm r (2 ^ b) := by
  obtain ⟨s, M, hm, hM⟩ := hx
  obtain ⟨N, hn, hN⟩ := hy
  obtain ⟨r, R, h1, h2, h3⟩ := div_fin hm hn hN hM hf
  exact ⟨r, h1, _, R, h2, h3⟩

theorem wrap_succ {i : Nat} (h : i < 2 ^ 60) : wrap64 ((i : Int) + 1) = ((i + 1 : Nat) : Int) := by
  unfold wrap64
  omega

theorem rd_nat (xs : List Nat) (i : Nat) : rd_F64 xs (i : Int) = xs.getD i 0 := rfl

/-- The sums, in both programs. -/
theorem sums (l0 l1 : List Nat) (n : Nat) (h0 : l0.length = n) (h1 : l1.length = n) (hn : n ≤ 2 ^ 44) (x7 : Nat)
    (s0 : ∀ j, j < n → vivariumref28_small.f (l0.getD j 0) = some true) (s1 : ∀ j, j < n → vivariumref28_small.f (l1.getD j 0) = some true) :
    ∀ (d i a b : Nat), i + d = n → Sm a (i * 2 ^ 1114) → Sm b (i * 2 ^ 1114) → ∃ a' b', Sm a' (n * 2 ^ 1114) ∧ Sm b' (n * 2 ^ 1114) ∧
      (∀ k, vivariumref28_Likeness.l1 (k + d) l0 l1 x7 a b i = vivariumref28_Likeness.l1 k l0 l1 x7 a' b' n) ∧
      (∀ k, census_Likeness.l0 (k + d) l0 l1 a b n i = census_Likeness.l0 k l0 l1 a' b' n n) := by
  intro d
  induction d with
  | zero =>
    intro i a b hi ha hb
    obtain rfl : i = n := by omega
    exact ⟨a, b, ha, hb, fun k => rfl, fun k => rfl⟩
  | succ d ih =>
    intro i a b hi ha hb
    have hi' : i < n := by omega
    have hf : (i + 1) * 2 ^ 1114 < 2 ^ 2098 := by
      refine Nat.lt_of_le_of_lt (Nat.mul_le_mul_right _ (Nat.le_trans (by omega : i + 1 ≤ n) hn)) ?_
      rw [← Nat.pow_add]
      exact Nat.pow_lt_pow_right (a := 2) (by decide) (by decide)
    have hc : i + 1 ≤ 2 ^ 53 := by omega
    have hb1 : i * 2 ^ 1114 + 2 ^ 1114 ≤ (i + 1) * 2 ^ 1114 := by rw [Nat.succ_mul]; exact Nat.le_refl _
    obtain ⟨ra, ea, ga⟩ := add_sm ha (small_sm (s0 i hi')) hc hb1 hf
    obtain ⟨rb, eb, gb⟩ := add_sm hb (small_sm (s1 i hi')) hc hb1 hf
    obtain ⟨a', b', g1, g2, g3, g4⟩ := ih (i + 1) ra rb (by omega) ga gb
    have hw := wrap_succ (i := i) (by omega)
    refine ⟨a', b', g1, g2, fun k => ?_, fun k => ?_⟩
    · rw [← g3 k, ← Nat.add_assoc, vivariumref28_Likeness.l1, if_pos (by omega), if_pos (by omega), rd_nat, ea, Option.bind_some, if_pos (by omega), rd_nat, eb, Option.bind_some, hw]
    · rw [← g4 k, ← Nat.add_assoc, census_Likeness.l0, if_pos (by omega), if_pos (by omega), if_pos (by omega), rd_nat, rd_nat, usual_small, s0 i hi', Option.bind_some, if_pos rfl, if_pos (by omega), usual_small, s1 i hi', Option.bind_some, if_pos rfl, ea, Option.bind_some, eb, Option.bind_some, hw]

/-- The moments, in both programs. -/
theorem moments (l0 l1 : List Nat) (n : Nat) (h0 : l0.length = n) (h1 : l1.length = n) (hn : n ≤ 2 ^ 44) (u v : Nat) (hu : Sm u (2 ^ 1158)) (hv : Sm v (2 ^ 1158))
    (s0 : ∀ j, j < n → vivariumref28_small.f (l0.getD j 0) = some true) (s1 : ∀ j, j < n → vivariumref28_small.f (l1.getD j 0) = some true) :
    ∀ (d i p q r : Nat), i + d = n → Sm p (i * 2 ^ 1244) → Sp q (i * 2 ^ 1244) → Sp r (i * 2 ^ 1244) → ∃ p' q' r', Sm p' (n * 2 ^ 1244) ∧ Sp q' (n * 2 ^ 1244) ∧ Sp r' (n * 2 ^ 1244) ∧
      (∀ k, vivariumref28_Likeness.l2 (k + d) l0 l1 u v p q r i = vivariumref28_Likeness.l2 k l0 l1 u v p' q' r' n) ∧
      (∀ k, census_Likeness.l1 (k + d) l0 l1 u v p q r n i = census_Likeness.l1 k l0 l1 u v p' q' r' n n) := by
  intro d
  induction d with
  | zero =>
    intro i p q r hi hp hq hr
    obtain rfl : i = n := by omega
    exact ⟨p, q, r, hp, hq, hr, fun k => rfl, fun k => rfl⟩
  | succ d ih =>
    intro i p q r hi hp hq hr
    have hi' : i < n := by omega
    have hf : (i + 1) * 2 ^ 1244 < 2 ^ 2098 := by
      refine Nat.lt_of_le_of_lt (Nat.mul_le_mul_right _ (Nat.le_trans (by omega : i + 1 ≤ n) hn)) ?_
      rw [← Nat.pow_add]
      exact Nat.pow_lt_pow_right (a := 2) (by decide) (by decide)
    have hc : i + 1 ≤ 2 ^ 53 := by omega
    have hb1 : i * 2 ^ 1244 + 2 ^ 1244 ≤ (i + 1) * 2 ^ 1244 := by rw [Nat.succ_mul]; exact Nat.le_refl _
    have hsum : 2 ^ 1114 + 2 ^ 1158 ≤ 2 ^ 1159 := by decide +kernel
    obtain ⟨x, ex, gx⟩ := sub_sm (small_sm (s0 i hi')) hu hsum (by decide)
    obtain ⟨y, ey, gy⟩ := sub_sm (small_sm (s1 i hi')) hv hsum (by decide)
    obtain ⟨xy, exy, gxy⟩ := mul_sm (b := 1244) gx gy (by decide) (by decide)
    obtain ⟨xx, exx, gxx⟩ := sq_sp (b := 1244) gx (by decide) (by decide)
    obtain ⟨yy, eyy, gyy⟩ := sq_sp (b := 1244) gy (by decide) (by decide)
    obtain ⟨ra, ea, ga⟩ := add_sm hp gxy hc hb1 hf
    obtain ⟨rb, eb, gb⟩ := add_sp hq gxx hc hb1 hf
    obtain ⟨rc, ec, gc⟩ := add_sp hr gyy hc hb1 hf
    obtain ⟨p', q', r', g1, g2, g3, g4, g5⟩ := ih (i + 1) ra rb rc (by omega) ga gb gc
    have hw := wrap_succ (i := i) (by omega)
    refine ⟨p', q', r', g1, g2, g3, fun k => ?_, fun k => ?_⟩
    · rw [← g4 k, ← Nat.add_assoc, vivariumref28_Likeness.l2, if_pos (by omega), if_pos (by omega), rd_nat, ex, Option.bind_some, if_pos (by omega), rd_nat, ey, Option.bind_some, exy, Option.bind_some, ea, Option.bind_some, exx, Option.bind_some, eb, Option.bind_some, eyy, Option.bind_some, ec, Option.bind_some, hw]
    · rw [← g5 k, ← Nat.add_assoc, census_Likeness.l1, if_pos (by omega), if_pos (by omega), if_pos (by omega), rd_nat, ex, Option.bind_some, if_pos (by omega), rd_nat, ey, Option.bind_some, exy, Option.bind_some, ea, Option.bind_some, exx, Option.bind_some, eb, Option.bind_some, eyy, Option.bind_some, ec, Option.bind_some, hw]

/-- Not a NaN. -/
def NN (x : Nat) : Prop := ∀ s f, double.read x ≠ .nan s f
theorem nn_rung {neg : Bool} {rung : Nat} (h : rung ≤ 2047 * 2 ^ 52) : NN (double.word neg rung) := by
  intro s f
  rw [read_word (by omega)]
  split
  · intro h; cases h
  · split
    · intro h; cases h
    · rw [if_pos (by omega)]
      intro h; cases h
theorem nn_nearest (neg : Bool) (mag : Nat) (place : Int) : NN (double.nearest neg mag place) := by
  have hi : double.infRung = 2047 * 2 ^ 52 := rfl
  unfold Format.nearest
  dsimp only
  split
  · exact nn_rung (Nat.zero_le _)
  · exact nn_rung (by rw [← hi]; exact Nat.min_le_right ..)
theorem order_nn {x y : Nat} (hx : NN x) (hy : NN y) : ∃ o, double.order x y = some o := by
  unfold Format.order
  cases h1 : double.read x with
  | nan s f => exact absurd h1 (hx s f)
  | infinity s =>
    cases h2 : double.read y with
    | nan t f => exact absurd h2 (hy t f)
    | infinity t => exact ⟨_, rfl⟩
    | number t m p => exact ⟨_, rfl⟩
  | number s n p =>
    cases h2 : double.read y with
    | nan t f => exact absurd h2 (hy t f)
    | infinity t => exact ⟨_, rfl⟩
    | number t m p => exact ⟨_, rfl⟩
theorem fEq_nn {x : Nat} (hx : NN x) : fEq x x = true := by
  rcases order_self x with h | h
  · show (double.order x x == some .eq) = true
    rw [h]; rfl
  · obtain ⟨o, ho⟩ := order_nn hx hx
    rw [h] at ho
    cases ho
theorem fin_nn {x : Nat} {s : Bool} {M : Nat} (h : fin x = some (s, M)) : NN x := by
  obtain ⟨m, a, hm, _⟩ := fin_read h
  intro t f hh
  rw [hm] at hh
  cases hh

theorem quo_nn {x y : Nat} {s t : Bool} {M N : Nat} (hx : fin x = some (s, M)) (hy : fin y = some (t, N)) (hN : N ≠ 0) : ∃ r, fQuo x y = some r ∧ NN r := by
  obtain ⟨m, a, hm, rfl⟩ := fin_read hx
  obtain ⟨n, b, hn, rfl⟩ := fin_read hy
  have hn0 : n ≠ 0 := by rintro rfl; simp at hN
  refine ⟨double.nearest (s ^^ t) (2 * ((m <<< (double.fractionBits + 2 + n.log2 - m.log2)) / n) + ((m <<< (double.fractionBits + 2 + n.log2 - m.log2)) % n != 0).toNat) ((a : Int) - 1074 - (b - 1074) - (double.fractionBits + 2 + n.log2 - m.log2 : Nat) - 1), ?_, by exact nn_nearest _ _ _⟩
  show double.div x y = _
  unfold Format.div
  rw [hm, hn]
  simp only [Datum.quotient, if_neg hn0, Option.map_some, Format.write]

theorem eq_zero {x M : Nat} (h : fin x = some (false, M)) : fEq x 0 = true ↔ M = 0 := by
  have := order_fin h fin_zero
  show (double.order x 0 == some .eq) = true ↔ _
  rw [this]
  rcases Nat.eq_zero_or_pos M with h0 | h0
  · subst h0; exact ⟨fun _ => rfl, fun _ => rfl⟩
  · have : compare (sgn false M) (sgn false 0) = .gt := cmp_gt (by simp [sgn]; omega)
    rw [this]
    exact ⟨fun h => (by cases h), fun h => (by omega)⟩

theorem fin_one : fin 4607182418800017408 = some (false, 2 ^ 1074) := by decide +kernel
theorem fin_mone : fin 13830554455654793216 = some (true, 2 ^ 1074) := by decide +kernel
theorem read_one : double.read 4607182418800017408 = .number false 4503599627370496 (-52) := by decide +kernel
theorem read_mone : double.read 13830554455654793216 = .number true 4503599627370496 (-52) := by decide +kernel

/-- The two ways of clipping. -/
theorem clip {v : Nat} (hv : NN v) : ∃ a b, (if fGt v 4607182418800017408 = true then some (4607182418800017408, (0 : Int)) else if fLt v 13830554455654793216 = true then some (13830554455654793216, 0) else some (v, 0)) = some (a, 0) ∧
    ((fMax 13830554455654793216 v).bind fun t149 => (fMin 4607182418800017408 t149).bind fun t150 => some (t150, (0 : Int))) = some (b, 0) ∧ fEq b a = true := by
  have nn1 : NN 4607182418800017408 := fin_nn fin_one
  have nn2 : NN 13830554455654793216 := fin_nn fin_mone
  have n1 : (double.read 4607182418800017408).neg = false := by rw [read_one]; rfl
  have n2 : (double.read 13830554455654793216).neg = true := by rw [read_mone]; rfl
  have d1 : (FloatKind.f64.decode 4607182418800017408).neg = false := n1
  have d2 : (FloatKind.f64.decode 13830554455654793216).neg = true := n2
  have o12 : double.order 4607182418800017408 13830554455654793216 = some .gt := by
    unfold Format.order; rw [read_one, read_mone]; decide +kernel
  unfold fGt fLt fMax fMin
  show ∃ a b, (if (double.order v 4607182418800017408 == some .gt) = true then some (4607182418800017408, (0 : Int)) else if (double.order v 13830554455654793216 == some .lt) = true then some (13830554455654793216, 0) else some (v, 0)) = some (a, 0) ∧
    ((match double.order 13830554455654793216 v with
      | none => none
      | some .lt => some v
      | some .gt => some 13830554455654793216
      | some .eq => some (if (FloatKind.f64.decode 13830554455654793216).neg then v else 13830554455654793216)).bind fun t149 => (match double.order 4607182418800017408 t149 with
      | none => none
      | some .lt => some 4607182418800017408
      | some .gt => some t149
      | some .eq => some (if (FloatKind.f64.decode 4607182418800017408).neg then 4607182418800017408 else t149)).bind fun t150 => some (t150, (0 : Int))) = some (b, 0) ∧ fEq b a = true
  rw [d1, d2]
  cases hr : double.read v with
  | nan s f => exact absurd hr (hv s f)
  | infinity s =>
    cases s
    · have e1 : double.order v 4607182418800017408 = some .gt := by unfold Format.order; rw [hr, read_one]; rfl
      have e2 : double.order 13830554455654793216 v = some .lt := by unfold Format.order; rw [hr, read_mone]; rfl
      have e3 : double.order 4607182418800017408 v = some .lt := by unfold Format.order; rw [hr, read_one]; rfl
      rw [e1, e2]
      simp only [Option.bind_some, e3]
      exact ⟨_, _, rfl, rfl, fEq_nn nn1⟩
    · have e1 : double.order v 4607182418800017408 = some .lt := by unfold Format.order; rw [hr, read_one]; rfl
      have e4 : double.order v 13830554455654793216 = some .lt := by unfold Format.order; rw [hr, read_mone]; rfl
      have e2 : double.order 13830554455654793216 v = some .gt := by unfold Format.order; rw [hr, read_mone]; rfl
      rw [e1, e2, e4]
      simp only [Option.bind_some, o12]
      exact ⟨_, _, rfl, rfl, fEq_nn nn2⟩
  | number s m p =>
    have hf : fin v = some (s, m * 2 ^ (p + 1074).toNat) := by unfold fin; rw [hr]
    generalize m * 2 ^ (p + 1074).toNat = M at hf
    have a1 := order_fin hf fin_one
    have a2 := order_fin hf fin_mone
    have a3 := order_fin fin_one hf
    have a4 := order_fin fin_mone hf
    have hB : sgn true (2 ^ 1074) = -sgn false (2 ^ 1074) := rfl
    have hBp : 0 < sgn false (2 ^ 1074) := by decide +kernel
    rw [hB] at a2 a4
    generalize sgn false (2 ^ 1074) = B at *
    generalize sgn s M = z at *
    rcases Int.lt_trichotomy z B with h | h | h
    · rcases Int.lt_trichotomy z (-B) with h' | h' | h'
      · rw [cmp_lt h] at a1
        rw [cmp_lt h'] at a2
        rw [cmp_gt h'] at a4
        rw [a1, a2, a4]
        simp only [Option.bind_some, o12]
        exact ⟨_, _, rfl, rfl, fEq_nn nn2⟩
      · rw [cmp_lt h] at a1
        rw [cmp_eq h'] at a2
        rw [cmp_eq h'.symm] at a4
        rw [cmp_gt h] at a3
        rw [a1, a2, a4]
        simp only [Option.bind_some, if_true, a3]
        exact ⟨_, _, rfl, rfl, fEq_nn hv⟩
      · rw [cmp_lt h] at a1
        rw [cmp_gt h'] at a2
        rw [cmp_lt h'] at a4
        rw [cmp_gt h] at a3
        rw [a1, a2, a4]
        simp only [Option.bind_some, a3]
        exact ⟨_, _, rfl, rfl, fEq_nn hv⟩
    · rw [cmp_eq h] at a1
      rw [cmp_gt (by omega)] at a2
      rw [cmp_lt (by omega)] at a4
      rw [cmp_eq h.symm] at a3
      rw [a1, a2, a4]
      simp only [Option.bind_some, a3]
      exact ⟨_, _, rfl, rfl, fEq_nn hv⟩
    · rw [cmp_gt h] at a1
      rw [cmp_lt (by omega)] at a4
      rw [cmp_lt h] at a3
      rw [a1, a4]
      simp only [Option.bind_some, a3]
      exact ⟨_, _, rfl, rfl, fEq_nn nn1⟩

theorem fEq_zero : fEq 0 0 = true := fEq_nn (fin_nn fin_zero)

/-- From the moments on. -/
theorem tail {n p q r : Nat} (hn : n ≤ 2 ^ 44) (hp : Sm p (n * 2 ^ 1244)) (hq : Sp q (n * 2 ^ 1244)) (hr : Sp r (n * 2 ^ 1244)) (l0 l1 : List Nat) (h0 : l0.length = n) (u v : Nat) :
    ∃ a b, (∀ k, vivariumref28_Likeness.l2 (k + 2) l0 l1 u v p q r n = some (a, 0)) ∧ (∀ k, census_Likeness.l1 (k + 2) l0 l1 u v p q r n n = some (b, 0)) ∧ fEq b a = true := by
  have hB : n * 2 ^ 1244 ≤ 2 ^ (2 * 107 + 1074) := by
    refine Nat.le_trans (Nat.mul_le_mul_right _ hn) ?_
    rw [← Nat.pow_add]
    exact Nat.pow_le_pow_right (by decide) (by decide)
  obtain ⟨sp, P, fp, bp⟩ := hp
  obtain ⟨Q, fq, bq⟩ := hq
  obtain ⟨R, fr, br⟩ := hr
  have key : ∀ k, vivariumref28_Likeness.l2 (k + 2) l0 l1 u v p q r n = vivariumref28_Likeness.j3 (k + 1) p q r (fEq q 0 || fEq r 0) ∧ census_Likeness.l1 (k + 2) l0 l1 u v p q r n n = census_Likeness.j2 (k + 1) p q r (fEq q 0 || fEq r 0) := by
    intro k
    constructor
    · rw [vivariumref28_Likeness.l2, if_neg (by omega)]
      cases fEq q 0
      · rw [if_neg (by decide), Bool.false_or]
      · rw [if_pos rfl, Bool.true_or]
    · rw [census_Likeness.l1, if_neg (by omega)]
      cases fEq q 0
      · rw [if_neg (by decide), Bool.false_or]
      · rw [if_pos rfl, Bool.true_or]
  by_cases hz : (fEq q 0 || fEq r 0) = true
  · refine ⟨0, 0, fun k => ?_, fun k => ?_, fEq_zero⟩
    · rw [(key k).1, hz, vivariumref28_Likeness.j3, if_pos rfl]
    · rw [(key k).2, hz, census_Likeness.j2, if_pos rfl]
  · rw [Bool.not_eq_true, Bool.or_eq_false_iff] at hz
    have hQ : Q ≠ 0 := fun h => by have := (eq_zero fq).2 h; rw [hz.1] at this; cases this
    have hR : R ≠ 0 := fun h => by have := (eq_zero fr).2 h; rw [hz.2] at this; cases this
    obtain ⟨x, X, e1, f1, b1, c1⟩ := sqrt_fin fq hQ (Nat.le_trans bq hB) (by decide)
    obtain ⟨y, Y, e2, f2, b2, c2⟩ := sqrt_fin fr hR (Nat.le_trans br hB) (by decide)
    obtain ⟨z, Z, e3, f3, b3, c3⟩ := mul_fin (c := 1) (b := 1288) f1 f2 (by decide) (by rw [Nat.one_mul, ← Nat.pow_add]; refine Nat.le_trans (Nat.mul_le_mul b1 b2) ?_; rw [← Nat.pow_add]; exact Nat.pow_le_pow_right (by decide) (by decide)) (by rw [Nat.one_mul]; exact Nat.pow_lt_pow_right (a := 2) (by decide) (by decide))
    have hZ : Z ≠ 0 := by
      have := c3 0 (by rw [Nat.pow_zero, Nat.one_mul]; refine Nat.le_trans ?_ (Nat.mul_le_mul c1 c2); rw [← Nat.pow_add]; exact Nat.pow_le_pow_right (by decide) (by decide))
      rw [Nat.pow_zero] at this
      omega
    obtain ⟨w, e4, hw⟩ := quo_nn fp f3 hZ
    obtain ⟨a, b, g1, g2, g3⟩ := clip hw
    have e1' : math_Sqrt.f q = some x := e1
    have e2' : math_Sqrt.f r = some y := e2
    have e3' : fMul x y = some z := e3
    refine ⟨a, b, fun k => ?_, fun k => ?_, g3⟩
    · rw [(key k).1, hz.1, hz.2, vivariumref28_Likeness.j3, if_neg (by decide), e1', Option.bind_some, e2', Option.bind_some, e3', Option.bind_some, e4, Option.bind_some]
      exact g1
    · rw [(key k).2, hz.1, hz.2, census_Likeness.j2, if_neg (by decide), e1', Option.bind_some, e2', Option.bind_some, e3', Option.bind_some, e4, Option.bind_some]
      exact g2

/-- A number out of reach, in both programs. -/
theorem bad (l0 l1 : List Nat) (n : Nat) (h0 : l0.length = n) (h1 : l1.length = n) (hn : n ≤ 2 ^ 44) :
    ∀ (d i a b : Nat), i + d = n → Sm a (i * 2 ^ 1114) → Sm b (i * 2 ^ 1114) → (∃ j, i ≤ j ∧ j < n ∧ ¬ (vivariumref28_small.f (l0.getD j 0) = some true ∧ vivariumref28_small.f (l1.getD j 0) = some true)) →
      (∀ k, vivariumref28_Likeness.l0 (k + d) l0 l1 i = some (0, 2)) ∧ (∀ k, census_Likeness.l0 (k + d) l0 l1 a b n i = some (0, 2)) := by
  intro d
  induction d with
  | zero =>
    rintro i a b hi _ _ ⟨j, h2, h3, _⟩
    omega
  | succ d ih =>
    rintro i a b hi ha hb ⟨j, h2, h3, h4⟩
    have hi' : i < n := by omega
    have hw := wrap_succ (i := i) (by omega)
    obtain ⟨t0, e0⟩ := small_bool (l0.getD i 0)
    obtain ⟨t1, e1⟩ := small_bool (l1.getD i 0)
    cases t0 with
    | false =>
      refine ⟨fun k => ?_, fun k => ?_⟩
      · rw [← Nat.add_assoc, vivariumref28_Likeness.l0, if_pos (by omega), if_pos (by omega), rd_nat, e0, Option.bind_some, if_neg (by decide)]
      · rw [← Nat.add_assoc, census_Likeness.l0, if_pos (by omega), if_pos (by omega), if_pos (by omega), rd_nat, usual_small, e0, Option.bind_some, if_neg (by decide)]
    | true =>
      cases t1 with
      | false =>
        refine ⟨fun k => ?_, fun k => ?_⟩
        · rw [← Nat.add_assoc, vivariumref28_Likeness.l0, if_pos (by omega), if_pos (by omega), rd_nat, e0, Option.bind_some, if_pos rfl, if_pos (by omega), rd_nat, e1, Option.bind_some, if_neg (by decide)]
        · rw [← Nat.add_assoc, census_Likeness.l0, if_pos (by omega), if_pos (by omega), if_pos (by omega), rd_nat, usual_small, e0, Option.bind_some, if_pos rfl, if_pos (by omega), rd_nat, usual_small, e1, Option.bind_some, if_neg (by decide)]
      | true =>
        have hji : j ≠ i := by rintro rfl; exact h4 ⟨e0, e1⟩
        have hf : (i + 1) * 2 ^ 1114 < 2 ^ 2098 := by
          refine Nat.lt_of_le_of_lt (Nat.mul_le_mul_right _ (Nat.le_trans (by omega : i + 1 ≤ n) hn)) ?_
          rw [← Nat.pow_add]
          exact Nat.pow_lt_pow_right (a := 2) (by decide) (by decide)
        have hc : i + 1 ≤ 2 ^ 53 := by omega
        have hb1 : i * 2 ^ 1114 + 2 ^ 1114 ≤ (i + 1) * 2 ^ 1114 := by rw [Nat.succ_mul]; exact Nat.le_refl _
        obtain ⟨ra, ea, ga⟩ := add_sm ha (small_sm e0) hc hb1 hf
        obtain ⟨rb, eb, gb⟩ := add_sm hb (small_sm e1) hc hb1 hf
        obtain ⟨g3, g4⟩ := ih (i + 1) ra rb (by omega) ga gb ⟨j, by omega, h3, h4⟩
        refine ⟨fun k => ?_, fun k => ?_⟩
        · rw [← g3 k, ← Nat.add_assoc, vivariumref28_Likeness.l0, if_pos (by omega), if_pos (by omega), rd_nat, e0, Option.bind_some, if_pos rfl, if_pos (by omega), rd_nat, e1, Option.bind_some, if_pos rfl, hw]
        · rw [← g4 k, ← Nat.add_assoc, census_Likeness.l0, if_pos (by omega), if_pos (by omega), if_pos (by omega), rd_nat, rd_nat, usual_small, e0, Option.bind_some, if_pos rfl, if_pos (by omega), usual_small, e1, Option.bind_some, if_pos rfl, ea, Option.bind_some, eb, Option.bind_some, hw]

theorem checks (l0 l1 : List Nat) (n : Nat) (h0 : l0.length = n) (h1 : l1.length = n) (hn : n ≤ 2 ^ 44)
    (s0 : ∀ j, j < n → vivariumref28_small.f (l0.getD j 0) = some true) (s1 : ∀ j, j < n → vivariumref28_small.f (l1.getD j 0) = some true) :
    ∀ (d i : Nat), i + d = n → ∀ k, vivariumref28_Likeness.l0 (k + d) l0 l1 i = vivariumref28_Likeness.l0 k l0 l1 n := by
  intro d
  induction d with
  | zero =>
    intro i hi k
    obtain rfl : i = n := by omega
    rfl
  | succ d ih =>
    intro i hi k
    have hi' : i < n := by omega
    have hw := wrap_succ (i := i) (by omega)
    rw [← ih (i + 1) (by omega) k, ← Nat.add_assoc, vivariumref28_Likeness.l0, if_pos (by omega), if_pos (by omega), rd_nat, s0 i hi', Option.bind_some, if_pos rfl, if_pos (by omega), rd_nat, s1 i hi', Option.bind_some, if_pos rfl, hw]

/-- The two programs' answers. -/
theorem both (l0 l1 : List Nat) (n : Nat) (h0 : l0.length = n) (hn : n ≤ 2 ^ 44) :
    ∃ a b c, (∀ k, vivariumref28_Likeness.f (k + (3 * n + 4)) l0 l1 = some (a, c)) ∧ (∀ k, census_Likeness.f (k + (3 * n + 4)) l0 l1 = some (b, c)) ∧ fEq b a = true := by
  by_cases he : l1.length = n
  rotate_left
  · refine ⟨0, 0, 21, fun k => ?_, fun k => ?_, fEq_zero⟩
    · rw [vivariumref28_Likeness.f, if_neg (by omega)]
    · rw [census_Likeness.f, if_neg (by omega)]
  by_cases hall : ∀ j, j < n → vivariumref28_small.f (l0.getD j 0) = some true ∧ vivariumref28_small.f (l1.getD j 0) = some true
  rotate_left
  · obtain ⟨j, hj⟩ := Classical.not_forall.1 hall
    obtain ⟨hj1, hj2⟩ := Classical.not_imp.1 hj
    obtain ⟨g1, g2⟩ := bad l0 l1 n h0 he hn n 0 0 0 (by omega) (sp_zero _).sm (sp_zero _).sm ⟨j, Nat.zero_le _, hj1, hj2⟩
    refine ⟨0, 0, 2, fun k => ?_, fun k => ?_, fEq_zero⟩
    · rw [vivariumref28_Likeness.f, if_pos (by omega)]
      have := g1 (k + (2 * n + 4))
      rwa [show k + (2 * n + 4) + n = k + (3 * n + 4) by omega] at this
    · rw [census_Likeness.f, if_pos (by omega), h0]
      have := g2 (k + (2 * n + 4))
      rwa [show k + (2 * n + 4) + n = k + (3 * n + 4) by omega] at this
  have s0 := fun j hj => (hall j hj).1
  have s1 := fun j hj => (hall j hj).2
  have c0 := checks l0 l1 n h0 he hn s0 s1 n 0 (by omega)
  obtain ⟨a, b, ha, hb, ga, gb⟩ := sums l0 l1 n h0 he hn (floatOfInt .f64 (n : Int)) s0 s1 n 0 0 0 (by omega) (sp_zero _).sm (sp_zero _).sm
  rcases Nat.eq_zero_or_pos n with hz | hz
  · subst hz
    refine ⟨0, 0, 0, fun k => ?_, fun k => ?_, fEq_zero⟩
    · rw [vivariumref28_Likeness.f, if_pos (by omega)]
      show vivariumref28_Likeness.l0 (k + 3 + 1) l0 l1 ((0 : Nat) : Int) = _
      rw [vivariumref28_Likeness.l0, if_neg (by omega), if_pos (by omega)]
    · rw [census_Likeness.f, if_pos (by omega), h0]
      show census_Likeness.l0 (k + 3 + 1) l0 l1 0 0 ((0 : Nat) : Int) ((0 : Nat) : Int) = _
      rw [census_Likeness.l0, if_neg (by omega), h0]
      have : fEq (floatOfInt .f64 ((0 : Nat) : Int)) 0 = true := by decide +kernel
      rw [if_pos this]
  have hb44 : n * 2 ^ 1114 ≤ 2 ^ 1158 := by
    refine Nat.le_trans (Nat.mul_le_mul_right _ hn) ?_
    rw [← Nat.pow_add]
    exact Nat.pow_le_pow_right (by decide) (by decide)
  have hcount := count_fin (n := n) hz (Nat.le_trans hn (Nat.pow_le_pow_right (by decide) (by decide)))
  obtain ⟨u, eu, hu⟩ := div_sm (ha.mono hb44) hcount (by decide)
  obtain ⟨v, ev, hv⟩ := div_sm (hb.mono hb44) hcount (by decide)
  obtain ⟨p, q, r, hp, hq, hr, gp, gq⟩ := moments l0 l1 n h0 he hn u v hu hv s0 s1 n 0 0 0 0 (by omega) (sp_zero _).sm (sp_zero _) (sp_zero _)
  obtain ⟨A, B, t1, t2, t3⟩ := tail hn hp hq hr l0 l1 h0 u v
  have hne : fEq (floatOfInt .f64 (n : Int)) 0 = false := by
    obtain ⟨N, hN, hN2⟩ := hcount
    cases hc : fEq (floatOfInt .f64 (n : Int)) 0 with
    | false => rfl
    | true =>
      have := (eq_zero hN).1 hc
      subst this
      exact absurd hN2 (Nat.not_le.2 (Nat.two_pow_pos 1074))
  refine ⟨A, B, 0, fun k => ?_, fun k => ?_, t3⟩
  · rw [vivariumref28_Likeness.f, if_pos (by omega)]
    have e1 := c0 (k + 2 + n + 1 + n + 1)
    have e2 := ga (k + 2 + n + 1)
    have e3 := gp (k + 2)
    rw [vivariumref28_Likeness.l0, if_neg (by omega), if_neg (by omega), h0] at e1
    rw [vivariumref28_Likeness.l1, if_neg (by omega), eu, Option.bind_some, ev, Option.bind_some] at e2
    rw [show k + (3 * n + 4) = k + 2 + n + 1 + n + 1 + n by omega]
    exact e1.trans (e2.trans (e3.trans (t1 k)))
  · rw [census_Likeness.f, if_pos (by omega), h0]
    have e2 := gb (k + n + 1 + 2 + n + 1)
    have e3 := gq (k + n + 1 + 2)
    rw [census_Likeness.l0, if_neg (by omega), h0, if_neg (by rw [hne]; decide), eu, Option.bind_some, ev, Option.bind_some] at e2
    rw [show k + (3 * n + 4) = k + n + 1 + 2 + n + 1 + n by omega]
    exact e2.trans (e3.trans (t2 (k + n + 1)))

theorem float_self (a : Nat) : vivariumlaw28_float.f a a = some true := by
  unfold vivariumlaw28_float.f
  rcases order_self a with h | h
  rotate_left
  · have h1 : fNe a a = true := by show (double.order a a != some .eq) = true; rw [h]; rfl
    rw [if_pos h1, h1]
  have h1 : fNe a a = false := by show (double.order a a != some .eq) = false; rw [h]; rfl
  have h2 : fEq a a = true := by show (double.order a a == some .eq) = true; rw [h]; rfl
  rw [h1, if_neg (by decide), if_neg (by decide), if_pos h2]
  by_cases h3 : fNe a 0 = true
  · rw [if_pos h3]
  rw [if_neg h3]
  have h4 : double.order a 0 = some .eq := by
    have h5 : (double.order a 0 != some .eq) = false := by simpa [fNe, FloatKind.format] using h3
    simpa using h5
  have r0 : double.read 0 = .number false 0 (-1074) := by decide +kernel
  have hz : ∃ s p, double.read a = .number s 0 p := by
    cases hr : double.read a with
    | nan s f => exfalso; unfold Format.order at h4; rw [hr] at h4; cases h4
    | infinity s => exfalso; unfold Format.order at h4; rw [hr, r0] at h4; cases s <;> cases h4
    | number s m p =>
      have hf : fin a = some (s, m * 2 ^ (p + 1074).toNat) := by unfold fin; rw [hr]
      have ho := order_fin hf fin_zero
      rw [h4] at ho
      rcases Nat.eq_zero_or_pos m with h0 | h0
      · exact ⟨s, p, by rw [h0]⟩
      · exfalso
        have hM := Nat.mul_pos h0 (Nat.two_pow_pos (p + 1074).toNat)
        generalize m * 2 ^ (p + 1074).toNat = M at *
        cases s
        · rw [cmp_gt (by simp [sgn]; omega)] at ho; cases ho
        · rw [cmp_lt (by simp [sgn]; omega)] at ho; cases ho
  obtain ⟨s, p, hr⟩ := hz
  have hq : fQuo 4607182418800017408 a = some (double.word s (2047 * 2 ^ 52)) := by
    show double.div _ a = _
    unfold Format.div
    rw [hr, read_one]
    simp only [Datum.quotient, if_true, Option.map_some, Format.write]
    rw [if_neg (by decide)]
    cases s <;> rfl
  rw [hq, Option.bind_some, Option.bind_some, fEq_nn (nn_rung (Nat.le_refl _))]

theorem copies1 (l1 : List Nat) (x5 : Nat) (x6 : Int) (x9 : Nat) (x10 : Int) (n : Nat) (h1 : l1.length = n) (hn : n ≤ 2 ^ 44) :
    ∀ (d i : Nat), i + d = n → ∀ k, vivariumlaw28_CensusLikeness.l1 (k + d) l1 x5 x6 l1 x9 x10 i = vivariumlaw28_CensusLikeness.l1 k l1 x5 x6 l1 x9 x10 n := by
  intro d
  induction d with
  | zero =>
    intro i hi k
    obtain rfl : i = n := by omega
    rfl
  | succ d ih =>
    intro i hi k
    have hw := wrap_succ (i := i) (by omega)
    rw [← ih (i + 1) (by omega) k, ← Nat.add_assoc, vivariumlaw28_CensusLikeness.l1, if_pos (by omega), if_pos (by omega), if_pos (by omega), float_self, Option.bind_some, if_pos rfl, hw]

theorem copies0 (l0 l1 : List Nat) (x5 : Nat) (x6 : Int) (x9 : Nat) (x10 : Int) (n : Nat) (h1 : l0.length = n) (hn : n ≤ 2 ^ 44) :
    ∀ (d i : Nat), i + d = n → ∀ k, vivariumlaw28_CensusLikeness.l0 (k + d) l0 l1 x5 x6 l0 l1 x9 x10 i = vivariumlaw28_CensusLikeness.l0 k l0 l1 x5 x6 l0 l1 x9 x10 n := by
  intro d
  induction d with
  | zero =>
    intro i hi k
    obtain rfl : i = n := by omega
    rfl
  | succ d ih =>
    intro i hi k
    have hw := wrap_succ (i := i) (by omega)
    rw [← ih (i + 1) (by omega) k, ← Nat.add_assoc, vivariumlaw28_CensusLikeness.l0, if_pos (by omega), if_pos (by omega), if_pos (by omega), float_self, Option.bind_some, if_pos rfl, hw]

theorem law (l0 l1 : List Nat) (h0 : l0.length < 17592186044416) (h1 : l1.length < 17592186044416) : ∃ k, vivariumlaw28_CensusLikeness.f k l0 l1 = some true := by
  obtain ⟨n, hn⟩ : ∃ n, n = l0.length := ⟨_, rfl⟩
  obtain ⟨m, hm⟩ : ∃ m, m = l1.length := ⟨_, rfl⟩
  have e44 : (17592186044416 : Nat) = 2 ^ 44 := by decide
  obtain ⟨a, b, c, g1, g2, g3⟩ := both l0 l1 n hn.symm (by omega)
  refine ⟨(m + 2) + (3 * n + 4), ?_⟩
  rw [vivariumlaw28_CensusLikeness.f, g1, Option.bind_some, if_pos (by simpa using h0), Option.bind_some, if_pos (by simpa using h1), Option.bind_some, List.nil_append, List.nil_append, g2, Option.bind_some]
  have e1 := copies0 l0 l1 a c b c n hn.symm (by omega) n 0 (by omega) (m + 2 + (2 * n + 3) + 1)
  have e2 := copies1 l1 a c b c m hm.symm (by omega) m 0 (by omega) (2 * n + 4 + 1)
  rw [show (m + 2) + (3 * n + 4) = m + 2 + (2 * n + 3) + 1 + n by omega]
  refine e1.trans ?_
  rw [vivariumlaw28_CensusLikeness.l0, if_neg (by omega), show m + 2 + (2 * n + 3) = 2 * n + 4 + 1 + m by omega]
  refine e2.trans ?_
  rw [vivariumlaw28_CensusLikeness.l1, if_neg (by omega), if_pos rfl, g3]
end Go.Proofs.Ytkmcaoheehkflaa.Lk
