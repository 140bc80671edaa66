/- Words of the print: what the walks of this claim use of them. -/
import Ieee.Arith
import Derived.Test.YtocijdlbpablkaaXWords
namespace Go.Proofs.YtocijdlbpablkaaW.XI
open Ieee
set_option exponentiation.threshold 3000
set_option linter.unusedVariables false
theorem cut_le {neg : Bool} {n drop C : Nat} (h : n ≤ C * 2 ^ drop) : Toward.even.cut neg n drop ≤ C := by
  simp only [Toward.cut, Nat.shiftLeft_eq, Nat.one_mul]
  have hlog : n < 2 ^ (n.log2 + 1) := Nat.lt_log2_self
  rcases Nat.le_total drop (n.log2 + 2) with hd | hd
  · rw [Nat.min_eq_left hd]
    have hg : 0 < 2 ^ drop := Nat.two_pow_pos _
    generalize 2 ^ drop = g at *
    have h1 := Nat.div_add_mod n g
    have h2 := Nat.mod_lt n hg
    have h3 : n / g ≤ C := Nat.div_le_of_le_mul (by rw [Nat.mul_comm]; exact h)
    rcases Nat.eq_or_lt_of_le h3 with h4 | h4
    · have h5 : n % g = 0 := by
        rw [h4, Nat.mul_comm] at h1
        omega
      rw [h5, h4]
      have : ¬ (g < 0) := by omega
      have h6 : (g == 0) = false := by simp; omega
      simp [h6]
    · have : ∀ b : Bool, n / g + b.toNat ≤ C := fun b => by cases b <;> simp <;> omega
      exact this _
  · rw [Nat.min_eq_right hd]
    have hp : 2 ^ (n.log2 + 2) = 2 * 2 ^ (n.log2 + 1) := by rw [Nat.pow_succ, Nat.mul_comm]
    have h1 : n < 2 ^ (n.log2 + 2) := by omega
    rw [Nat.div_eq_of_lt h1, Nat.mod_eq_of_lt h1]
    have h2 : ¬ (2 ^ (n.log2 + 2) < 2 * n) := by omega
    have h3 : (2 ^ (n.log2 + 2) == 2 * n) = false := by simp; omega
    simp [h2, h3]
theorem le_cut {neg : Bool} {n drop C : Nat} (h : C * 2 ^ drop ≤ n) : C ≤ Toward.even.cut neg n drop := by
  simp only [Toward.cut, Nat.shiftLeft_eq, Nat.one_mul]
  have hlog : n < 2 ^ (n.log2 + 1) := Nat.lt_log2_self
  rcases Nat.le_total drop (n.log2 + 2) with hd | hd
  · rw [Nat.min_eq_left hd]
    have hg : 0 < 2 ^ drop := Nat.two_pow_pos _
    have : C ≤ n / 2 ^ drop := (Nat.le_div_iff_mul_le hg).2 h
    omega
  · have h1 : 2 ^ (n.log2 + 2) ≤ 2 ^ drop := Nat.pow_le_pow_right (by decide) hd
    have hp : 2 ^ (n.log2 + 2) = 2 * 2 ^ (n.log2 + 1) := by rw [Nat.pow_succ, Nat.mul_comm]
    rcases Nat.eq_zero_or_pos C with h0 | h0
    · rw [h0]; exact Nat.zero_le _
    · have := Nat.le_mul_of_pos_left (2 ^ drop) h0
      omega
def fin (x : Nat) : Option (Bool × Nat) := match double.read x with
  | .number s m p => some (s, m * 2 ^ (p + 1074).toNat)
  | _ => none
theorem read_word {neg : Bool} {rung : Nat} (h : rung < 2 ^ 63) : double.read (double.word neg rung) = 
    if rung < 2 ^ 52 then .number neg rung (-1074) else if rung < 2047 * 2 ^ 52 then .number neg (2 ^ 52 + rung % 2 ^ 52) (-1074 + (rung / 2 ^ 52 - 1 : Nat))
    else if rung = 2047 * 2 ^ 52 then .infinity neg else .nan neg (rung - 2047 * 2 ^ 52) := by
  have hs : double.signWeight = 2 ^ 63 := rfl
  have hb : double.binade = 2 ^ 52 := rfl
  have hi : double.infRung = 2047 * 2 ^ 52 := rfl
  have hl : double.leastPlace = -1074 := rfl
  have h1 : double.word neg rung % 2 ^ 63 = rung := by
    unfold Format.word
    rw [hs]
    cases neg <;> simp <;> omega
  have h2 : (double.word neg rung / 2 ^ 63 % 2 == 1) = neg := by
    unfold Format.word
    rw [hs]
    cases neg
    · simp; omega
    · simp; omega
  unfold Format.read
  simp only [hs, hb, hi, hl, h1, h2]
theorem fin_rung {neg : Bool} {L kept : Nat} (h2 : kept ≤ 2 ^ 53) (h3 : 0 < L → 2 ^ 52 ≤ kept) (hi : L * 2 ^ 52 + kept < 2047 * 2 ^ 52) :
    fin (double.word neg (L * 2 ^ 52 + kept)) = some (neg, kept * 2 ^ L) := by
  unfold fin
  rw [read_word (by omega)]
  by_cases h : L * 2 ^ 52 + kept < 2 ^ 52
  · have : L = 0 := by omega
    subst this
    rw [if_pos h]
    simp
  · rw [if_neg h, if_pos hi]
    rcases Nat.lt_or_ge kept (2 ^ 53) with hk | hk
    · have hk2 : 2 ^ 52 ≤ kept := by
        rcases Nat.eq_zero_or_pos L with h0 | h0
        · subst h0; omega
        · exact h3 h0
      have e1 : (L * 2 ^ 52 + kept) / 2 ^ 52 = L + 1 := by omega
      have e2 : (L * 2 ^ 52 + kept) % 2 ^ 52 = kept - 2 ^ 52 := by omega
      rw [e1, e2]
      have e3 : 2 ^ 52 + (kept - 2 ^ 52) = kept := by omega
      have e4 : (-1074 + ((L + 1 - 1 : Nat) : Int) + 1074).toNat = L := by omega
      simp only [e3, e4]
    · have hk : kept = 2 ^ 53 := Nat.le_antisymm h2 hk
      have e1 : (L * 2 ^ 52 + kept) / 2 ^ 52 = L + 2 := by omega
      have e2 : (L * 2 ^ 52 + kept) % 2 ^ 52 = 0 := by omega
      rw [e1, e2]
      have e4 : (-1074 + ((L + 2 - 1 : Nat) : Int) + 1074).toNat = L + 1 := by omega
      simp only [e4]
      have e5 : (2 ^ 52 + 0) * 2 ^ (L + 1) = kept * 2 ^ L := by
        rw [show 2 ^ (L + 1) = 2 ^ L * 2 from Nat.pow_succ ..,  hk, Nat.mul_comm (2 ^ L) 2, ← Nat.mul_assoc]
      rw [e5]
theorem nearest_fin {neg : Bool} {mag : Nat} {place : Int} (a D : Nat) (hp : place = a - D - 1074) {c0 b0 : Nat} (hc0 : c0 ≤ 2 ^ 53) (h0 : mag * 2 ^ a ≤ c0 * 2 ^ b0 * 2 ^ D) (hf : c0 * 2 ^ b0 < 2 ^ 2098) :
    ∃ M, fin (double.nearest neg mag place) = some (neg, M) ∧ (∀ c b, c ≤ 2 ^ 53 → mag * 2 ^ a ≤ c * 2 ^ b * 2 ^ D → M ≤ c * 2 ^ b) ∧ (∀ c b, c ≤ 2 ^ 53 → c * 2 ^ b * 2 ^ D ≤ mag * 2 ^ a → c * 2 ^ b ≤ M) := by
  by_cases hm : mag = 0
  · subst hm
    refine ⟨0, by unfold Format.nearest; rw [if_pos rfl]; cases neg <;> rfl, fun c b _ _ => Nat.zero_le _, fun c b _ h => ?_⟩
    rw [Nat.zero_mul] at h
    have h1 := Nat.le_zero.1 h
    rcases Nat.mul_eq_zero.1 h1 with h2 | h2
    · omega
    · have := Nat.two_pow_pos D
      omega
  obtain ⟨l, hl⟩ : ∃ l, l = mag.log2 := ⟨_, rfl⟩
  have hlo : 2 ^ l ≤ mag := by rw [hl]; exact Nat.log2_self_le hm
  have hhi : mag < 2 ^ (l + 1) := by rw [hl]; exact Nat.lt_log2_self
  obtain ⟨L, hL⟩ : ∃ L, L = (a + l) - (52 + D) := ⟨_, rfl⟩
  obtain ⟨drop, hdrop⟩ : ∃ d, d = (D + L) - a := ⟨_, rfl⟩
  obtain ⟨n, hn⟩ : ∃ n, n = mag * 2 ^ (a - (D + L)) := ⟨_, rfl⟩
  obtain ⟨kept, hkept⟩ : ∃ k, k = Toward.even.cut neg n drop := ⟨_, rfl⟩
  have hnear : double.nearest neg mag place = double.word neg (min (L * 2 ^ 52 + kept) (2047 * 2 ^ 52)) := by
    unfold Format.nearest
    rw [if_neg hm]
    have h1 : max (place + (mag.log2 : Int) - (double.fractionBits : Int)) double.leastPlace = (L : Int) - 1074 := by
      have e1 : double.leastPlace = -1074 := rfl
      have e2 : (double.fractionBits : Int) = 52 := rfl
      rw [e1, e2, ← hl]
      omega
    simp only [h1]
    have e1 : double.leastPlace = -1074 := rfl
    have h2 : (place - ((L : Int) - 1074)).toNat = a - (D + L) := by omega
    have h3 : ((L : Int) - 1074 - place).toNat = drop := by omega
    have h4 : ((L : Int) - 1074 - double.leastPlace).toNat = L := by rw [e1]; omega
    rw [h2, h3, h4, Nat.shiftLeft_eq, ← hn, ← hkept]
    rfl
  -- n and mag
  have hrel : n * 2 ^ (D + L) = mag * 2 ^ a * 2 ^ drop := by
    rw [hn, Nat.mul_assoc, Nat.mul_assoc, ← Nat.pow_add, ← Nat.pow_add]
    congr 2
    omega
  have up : ∀ C, mag * 2 ^ a ≤ C * 2 ^ (D + L) → kept ≤ C := by
    intro C h
    rw [hkept]
    refine cut_le ?_
    have h1 : n * 2 ^ (D + L) ≤ (C * 2 ^ drop) * 2 ^ (D + L) := by
      rw [hrel, Nat.mul_right_comm C]
      exact Nat.mul_le_mul_right _ h
    exact Nat.le_of_mul_le_mul_right h1 (Nat.two_pow_pos _)
  have dn : ∀ C, C * 2 ^ (D + L) ≤ mag * 2 ^ a → C ≤ kept := by
    intro C h
    rw [hkept]
    refine le_cut ?_
    have h1 : (C * 2 ^ drop) * 2 ^ (D + L) ≤ n * 2 ^ (D + L) := by
      rw [hrel, Nat.mul_right_comm C]
      exact Nat.mul_le_mul_right _ h
    exact Nat.le_of_mul_le_mul_right h1 (Nat.two_pow_pos _)
  have k53 : kept ≤ 2 ^ 53 := by
    refine up _ ?_
    have h1 : mag * 2 ^ a ≤ 2 ^ (l + 1) * 2 ^ a := Nat.mul_le_mul_right _ (Nat.le_of_lt hhi)
    refine Nat.le_trans h1 ?_
    rw [← Nat.pow_add, ← Nat.pow_add]
    exact Nat.pow_le_pow_right (by decide) (by omega)
  have big : 0 < L → 2 ^ (52 + (D + L)) ≤ mag * 2 ^ a := by
    intro h
    have h1 : 2 ^ l * 2 ^ a ≤ mag * 2 ^ a := Nat.mul_le_mul_right _ hlo
    refine Nat.le_trans ?_ h1
    rw [← Nat.pow_add]
    exact Nat.pow_le_pow_right (by decide) (by omega)
  have k52 : 0 < L → 2 ^ 52 ≤ kept := by
    intro h
    refine dn _ ?_
    rw [← Nat.pow_add]
    exact big h
  have upM : ∀ c b, c ≤ 2 ^ 53 → mag * 2 ^ a ≤ c * 2 ^ b * 2 ^ D → kept * 2 ^ L ≤ c * 2 ^ b := by
    intro c b hc h
    rcases Nat.lt_or_ge b L with hb | hb
    · have h1 := big (by omega)
      have h2 : c * 2 ^ b * 2 ^ D ≤ 2 ^ 53 * 2 ^ b * 2 ^ D := Nat.mul_le_mul_right _ (Nat.mul_le_mul_right _ hc)
      have h3 : 2 ^ 53 * 2 ^ b * 2 ^ D ≤ 2 ^ (52 + (D + L)) := by
        rw [← Nat.pow_add, ← Nat.pow_add]
        exact Nat.pow_le_pow_right (by decide) (by omega)
      have h4 : kept ≤ 2 ^ 52 := by
        refine up _ ?_
        rw [← Nat.pow_add]
        omega
      have h5 : kept * 2 ^ L ≤ 2 ^ 52 * 2 ^ L := Nat.mul_le_mul_right _ h4
      have h6 : 2 ^ 52 * 2 ^ L * 2 ^ D ≤ c * 2 ^ b * 2 ^ D := by
        rw [← Nat.pow_add, ← Nat.pow_add]
        refine Nat.le_trans ?_ (Nat.le_trans h1 h)
        exact Nat.pow_le_pow_right (by decide) (by omega)
      exact Nat.le_trans h5 (Nat.le_of_mul_le_mul_right h6 (Nat.two_pow_pos _))
    · have h1 : kept ≤ c * 2 ^ (b - L) := by
        refine up _ (Nat.le_trans h (Nat.le_of_eq ?_))
        rw [Nat.mul_assoc, Nat.mul_assoc, ← Nat.pow_add, ← Nat.pow_add]
        congr 2
        omega
      refine Nat.le_trans (Nat.mul_le_mul_right _ h1) (Nat.le_of_eq ?_)
      rw [Nat.mul_assoc, ← Nat.pow_add]
      congr 2
      omega
  have hM := upM c0 b0 hc0 h0
  have hin : L * 2 ^ 52 + kept < 2047 * 2 ^ 52 := by
    rcases Nat.eq_zero_or_pos L with h | h
    · subst h; clear hf hM h0 upM; omega
    · have h1 := k52 h
      have h2 : 2 ^ 52 * 2 ^ L ≤ kept * 2 ^ L := Nat.mul_le_mul_right _ h1
      have h3 := Nat.lt_of_le_of_lt h2 (Nat.lt_of_le_of_lt hM hf)
      rw [← Nat.pow_add] at h3
      have h4 : 52 + L < 2098 := (Nat.pow_lt_pow_iff_right (a := 2) (n := 52 + L) (m := 2098) (by decide)).1 h3
      clear h3 h2
      rcases Nat.lt_or_ge L 2045 with h5 | h5
      · clear hf hM h0 upM; omega
      · have h6 : L = 2045 := by clear hf hM h0 upM; omega
        have h7 : kept * 2 ^ L < 2 ^ 53 * 2 ^ L := by
          refine Nat.lt_of_lt_of_le (Nat.lt_of_le_of_lt hM hf) ?_
          rw [← Nat.pow_add]
          exact Nat.pow_le_pow_right (by decide) (by clear hf hM h0 upM; omega)
        have h8 := Nat.lt_of_mul_lt_mul_right h7
        clear hf hM h0 upM h7
        omega
  refine ⟨kept * 2 ^ L, ?_, upM, fun c b hc h => ?_⟩
  · rw [hnear, Nat.min_eq_left (Nat.le_of_lt hin)]
    exact fin_rung k53 k52 hin
  · rcases Nat.lt_or_ge b L with ht | ht
    · have h1 := k52 (by omega)
      have h2 : 2 ^ 52 * 2 ^ L ≤ kept * 2 ^ L := Nat.mul_le_mul_right _ h1
      have h3 : c * 2 ^ b ≤ 2 ^ 53 * 2 ^ b := Nat.mul_le_mul_right _ hc
      refine Nat.le_trans h3 (Nat.le_trans ?_ h2)
      rw [← Nat.pow_add, ← Nat.pow_add]
      exact Nat.pow_le_pow_right (by decide) (by omega)
    · have h1 : c * 2 ^ (b - L) ≤ kept := by
        refine dn _ (Nat.le_trans (Nat.le_of_eq ?_) h)
        rw [Nat.mul_assoc, Nat.mul_assoc, ← Nat.pow_add, ← Nat.pow_add]
        congr 2
        omega
      refine Nat.le_trans (Nat.le_of_eq ?_) (Nat.mul_le_mul_right _ h1)
      rw [Nat.mul_assoc, ← Nat.pow_add]
      congr 2
      omega
theorem fin_read {x : Nat} {s : Bool} {M : Nat} (h : fin x = some (s, M)) : ∃ m a : Nat, double.read x = .number s m (a - 1074) ∧ M = m * 2 ^ a := by
  unfold fin at h
  have hl : double.leastPlace = -1074 := rfl
  split at h
  · rename_i s' m p he
    have hp : ∃ a : Nat, p = a - 1074 := by
      unfold Format.read at he
      simp only [hl] at he
      split at he
      · cases he
        exact ⟨0, by simp⟩
      · split at he
        · cases he
          exact ⟨x % double.signWeight / double.binade - 1, by omega⟩
        · split at he <;> cases he
    obtain ⟨a, rfl⟩ := hp
    cases h
    refine ⟨m, a, he, ?_⟩
    have : ((a : Int) - 1074 + 1074).toNat = a := by omega
    rw [this]
  · cases h
theorem signed_shift (s : Bool) (m b d : Nat) : signed s m (b + d) = signed s m b * 2 ^ d := by
  unfold signed
  simp only [Nat.shiftLeft_eq, Nat.pow_add]
  cases s <;> simp [Int.natCast_mul, Int.mul_assoc, Int.neg_mul]
def sgn (s : Bool) (M : Nat) : Int := if s then -(M : Int) else M
theorem signed_sgn (s : Bool) (m a : Nat) : signed s m a = sgn s (m * 2 ^ a) := by
  unfold signed sgn
  simp only [Nat.shiftLeft_eq]
theorem cmp_lt {x y : Int} (h : x < y) : compare x y = .lt := by
  show compareOfLessAndEq x y = _
  unfold compareOfLessAndEq
  rw [if_pos h]
theorem cmp_eq {x y : Int} (h : x = y) : compare x y = .eq := by
  show compareOfLessAndEq x y = _
  unfold compareOfLessAndEq
  rw [if_neg (by omega), if_pos h]
theorem cmp_gt {x y : Int} (h : y < x) : compare x y = .gt := by
  show compareOfLessAndEq x y = _
  unfold compareOfLessAndEq
  rw [if_neg (by omega), if_neg (by omega)]
theorem compare_mul (x y : Int) (d : Nat) : compare (x * 2 ^ d) (y * 2 ^ d) = compare x y := by
  have hp : (0 : Int) < 2 ^ d := Int.pow_pos (by omega)
  rcases Int.lt_trichotomy x y with h | h | h
  · rw [cmp_lt h, cmp_lt (Int.mul_lt_mul_of_pos_right h hp)]
  · subst h; rw [cmp_eq rfl, cmp_eq rfl]
  · rw [cmp_gt h, cmp_gt (Int.mul_lt_mul_of_pos_right h hp)]
theorem order_fin {x y : Nat} {s t : Bool} {M N : Nat} (hx : fin x = some (s, M)) (hy : fin y = some (t, N)) : double.order x y = some (compare (sgn s M) (sgn t N)) := by
  obtain ⟨m, a, hm, rfl⟩ := fin_read hx
  obtain ⟨n, b, hn, rfl⟩ := fin_read hy
  unfold Format.order
  rw [hm, hn]
  simp only [Datum.order]
  congr 1
  rw [← signed_sgn, ← signed_sgn]
  obtain ⟨d, hd⟩ : ∃ d, d = min a b := ⟨_, rfl⟩
  have e1 : ((a : Int) - 1074 - min ((a : Int) - 1074) ((b : Int) - 1074)).toNat = a - d := by omega
  have e2 : ((b : Int) - 1074 - min ((a : Int) - 1074) ((b : Int) - 1074)).toNat = b - d := by omega
  rw [e1, e2, ← compare_mul _ _ d, ← signed_shift, ← signed_shift]
  congr 2 <;> omega
open Go Go.Proofs.YtocijdlbpablkaaW.XWords
def IsI (x : Nat) (n : Int) : Prop := ∃ s M, fin x = some (s, M) ∧ sgn s M = n * 2 ^ 1074
theorem sgn_abs (s : Bool) (M : Nat) : (sgn s M).natAbs = M := by unfold sgn; cases s <;> simp
theorem IsI.mag {x : Nat} {n : Int} {s : Bool} {M : Nat} (h : fin x = some (s, M)) (hv : sgn s M = n * 2 ^ 1074) : M = n.natAbs * 2 ^ 1074 := by
  have h1 := sgn_abs s M
  rw [hv, Int.natAbs_mul] at h1
  have h2 : ((2 : Int) ^ 1074).natAbs = 2 ^ 1074 := by
    have : ((2 : Int) ^ 1074) = ((2 ^ 1074 : Nat) : Int) := by rw [Int.natCast_pow]; rfl
    rw [this, Int.natAbs_natCast]
  rw [h2] at h1
  exact h1.symm
theorem pow_pos' : (0 : Int) < 2 ^ 1074 := Int.pow_pos (by decide)
theorem cast_pow (a : Nat) : ((2 ^ a : Nat) : Int) = (2 : Int) ^ a := by rw [Int.natCast_pow]; rfl
theorem exact {neg : Bool} {mag a : Nat} {place : Int} (hp : place = a - 1074) {n : Int} (h : mag * 2 ^ a = n.natAbs * 2 ^ 1074) (hn : n.natAbs ≤ 2 ^ 53) (hs : n ≠ 0 → neg = decide (n < 0)) : IsI (double.nearest neg mag place) n := by
  have hlt : n.natAbs * 2 ^ 1074 < 2 ^ 2098 := by
    have h1 : n.natAbs * 2 ^ 1074 ≤ 2 ^ 53 * 2 ^ 1074 := Nat.mul_le_mul_right _ hn
    refine Nat.lt_of_le_of_lt h1 ?_
    rw [← Nat.pow_add]
    exact Nat.pow_lt_pow_right (by decide) (by decide)
  obtain ⟨M, h1, h2, h3⟩ := nearest_fin (neg := neg) (mag := mag) (place := place) a 0 (by omega) (c0 := n.natAbs) (b0 := 1074) hn (by rw [h]; exact Nat.le_of_eq (by rw [Nat.pow_zero, Nat.mul_one])) hlt
  have h4 := h2 n.natAbs 1074 hn (by rw [h, Nat.pow_zero, Nat.mul_one]; exact Nat.le_refl _)
  have h5 := h3 n.natAbs 1074 hn (by rw [h, Nat.pow_zero, Nat.mul_one]; exact Nat.le_refl _)
  have h6 : M = n.natAbs * 2 ^ 1074 := Nat.le_antisymm h4 h5
  refine ⟨neg, M, h1, ?_⟩
  subst h6
  unfold sgn
  rw [Int.natCast_mul, cast_pow]
  by_cases h0 : n = 0
  · subst h0; simp
  · rw [hs h0]
    rcases Int.lt_or_gt_of_ne h0 with h7 | h7
    · rw [decide_eq_true h7, if_pos rfl, ← Int.neg_mul]
      congr 1
      omega
    · rw [decide_eq_false (by omega), if_neg (by decide)]
      congr 1
      omega
theorem isI_of {n : Int} (hn : n.natAbs ≤ 2 ^ 53) : IsI (floatOfInt .f64 n) n := by
  show IsI (double.nearest (decide (n < 0)) n.natAbs 0) n
  exact exact (a := 1074) (by omega) rfl hn fun _ => rfl
theorem sgn_read {x : Nat} {s : Bool} {m a : Nat} (d : Nat) (hd : d ≤ a) : signed s m (a - d) * 2 ^ d = sgn s (m * 2 ^ a) := by
  rw [← signed_shift, signed_sgn]
  congr 3
  omega
theorem sum_exact {s t : Bool} {m a n b : Nat} {u v : Int} (hx : sgn s (m * 2 ^ a) = u * 2 ^ 1074) (hy : sgn t (n * 2 ^ b) = v * 2 ^ 1074) (h : (u + v).natAbs ≤ 2 ^ 53) {x y : Datum} (ex : x = .number s m (a - 1074)) (ey : y = .number t n (b - 1074)) :
    ∃ r, (x.sum y).map double.write = some r ∧ IsI r (u + v) := by
  subst ex; subst ey
  obtain ⟨d, hd⟩ : ∃ d, d = min a b := ⟨_, rfl⟩
  have e1 : ((a : Int) - 1074 - min ((a : Int) - 1074) ((b : Int) - 1074)).toNat = a - d := by omega
  have e2 : ((b : Int) - 1074 - min ((a : Int) - 1074) ((b : Int) - 1074)).toNat = b - d := by omega
  have e3 : min ((a : Int) - 1074) ((b : Int) - 1074) = (d : Int) - 1074 := by omega
  obtain ⟨T, hT⟩ : ∃ T, T = signed s m (a - d) + signed t n (b - d) := ⟨_, rfl⟩
  have hv : T * 2 ^ d = (u + v) * 2 ^ 1074 := by
    rw [hT, Int.add_mul, sgn_read (x := 0) d (by omega), sgn_read (x := 0) d (by omega), hx, hy, Int.add_mul]
  refine ⟨_, by simp only [Datum.sum, Option.map_some, Format.write]; rw [e1, e2, ← hT, e3], ?_⟩
  have hp : (0 : Int) < 2 ^ d := Int.pow_pos (by decide)
  refine exact (a := d) rfl ?_ h fun h0 => ?_
  · have h1 : (T * 2 ^ d).natAbs = ((u + v) * 2 ^ 1074).natAbs := by rw [hv]
    rw [Int.natAbs_mul, Int.natAbs_mul, ← cast_pow, ← cast_pow, Int.natAbs_natCast, Int.natAbs_natCast] at h1
    exact h1
  · have hT0 : T ≠ 0 := by
      rintro h2
      rw [h2, Int.zero_mul] at hv
      rcases Int.mul_eq_zero.1 hv.symm with h3 | h3
      · exact h0 h3
      · have := pow_pos'; omega
    rw [if_neg hT0]
    congr 1
    apply propext
    constructor
    · intro h2
      have h3 := Int.mul_neg_of_neg_of_pos h2 hp
      rw [hv] at h3
      by_cases h4 : u + v < 0
      · exact h4
      · have := Int.mul_nonneg (Int.not_lt.1 h4) (Int.le_of_lt pow_pos'); omega
    · intro h2
      have h3 := Int.mul_neg_of_neg_of_pos h2 pow_pos'
      rw [← hv] at h3
      by_cases h4 : T < 0
      · exact h4
      · have := Int.mul_nonneg (Int.not_lt.1 h4) (Int.le_of_lt hp); omega
theorem isI_add {x y : Nat} {u v : Int} (hx : IsI x u) (hy : IsI y v) (h : (u + v).natAbs ≤ 2 ^ 53) : ∃ r, fAdd x y = some r ∧ IsI r (u + v) := by
  obtain ⟨s, M, h1, h2⟩ := hx
  obtain ⟨t, N, h3, h4⟩ := hy
  obtain ⟨m, a, hm, rfl⟩ := fin_read h1
  obtain ⟨n, b, hn, rfl⟩ := fin_read h3
  exact sum_exact h2 h4 h hm hn
theorem sgn_not (s : Bool) (M : Nat) : sgn (!s) M = -sgn s M := by unfold sgn; cases s <;> simp
theorem isI_sub {x y : Nat} {u v : Int} (hx : IsI x u) (hy : IsI y v) (h : (u - v).natAbs ≤ 2 ^ 53) : ∃ r, fSub x y = some r ∧ IsI r (u - v) := by
  obtain ⟨s, M, h1, h2⟩ := hx
  obtain ⟨t, N, h3, h4⟩ := hy
  obtain ⟨m, a, hm, rfl⟩ := fin_read h1
  obtain ⟨n, b, hn, rfl⟩ := fin_read h3
  have h5 := sum_exact (v := -v) h2 (t := !t) (n := n) (b := b) (by rw [sgn_not, h4, Int.neg_mul]) (by rw [← Int.sub_eq_add_neg]; exact h) (y := (double.read y).opposite) hm (by rw [hn]; rfl)
  rw [← Int.sub_eq_add_neg] at h5
  exact h5
theorem isI_mul {x y : Nat} {u v : Int} (hx : IsI x u) (hy : IsI y v) (h : (u * v).natAbs ≤ 2 ^ 53) : ∃ r, fMul x y = some r ∧ IsI r (u * v) := by
  obtain ⟨s, M, h1, h2⟩ := hx
  obtain ⟨t, N, h3, h4⟩ := hy
  have hM := IsI.mag h1 h2
  have hN := IsI.mag h3 h4
  obtain ⟨m, a, hm, rfl⟩ := fin_read h1
  obtain ⟨n, b, hn, rfl⟩ := fin_read h3
  have hprod : m * n * 2 ^ (a + b) = (u * v).natAbs * 2 ^ 1074 * 2 ^ 1074 := by
    have : m * 2 ^ a * (n * 2 ^ b) = u.natAbs * 2 ^ 1074 * (v.natAbs * 2 ^ 1074) := by rw [hM, hN]
    have e1 : m * 2 ^ a * (n * 2 ^ b) = m * n * 2 ^ (a + b) := by rw [Nat.pow_add, Nat.mul_assoc, Nat.mul_assoc, Nat.mul_left_comm (2 ^ a)]
    rw [← e1, this, Int.natAbs_mul, Nat.mul_assoc, Nat.mul_assoc, Nat.mul_assoc, Nat.mul_left_comm (2 ^ 1074)]
  have hneg : u * v ≠ 0 → (s ^^ t) = decide (u * v < 0) := by
    intro h0
    have hu : u ≠ 0 := by rintro rfl; simp at h0
    have hv : v ≠ 0 := by rintro rfl; simp at h0
    have hs : ∀ {s : Bool} {M : Nat} {u : Int}, u ≠ 0 → sgn s M = u * 2 ^ 1074 → s = decide (u < 0) := by
      intro s M u hu he
      have hp := pow_pos'
      rcases Int.lt_or_gt_of_ne hu with h7 | h7
      · rw [decide_eq_true h7]
        cases s with
        | true => rfl
        | false =>
          have := Int.mul_neg_of_neg_of_pos h7 hp
          unfold sgn at he
          simp at he
          omega
      · rw [decide_eq_false (by omega)]
        cases s with
        | false => rfl
        | true =>
          have := Int.mul_pos h7 hp
          unfold sgn at he
          simp at he
          omega
    rw [hs hu h2, hs hv h4]
    rcases Int.lt_or_gt_of_ne hu with h7 | h7 <;> rcases Int.lt_or_gt_of_ne hv with h8 | h8
    · have := Int.mul_pos_of_neg_of_neg h7 h8
      rw [decide_eq_true h7, decide_eq_true h8, decide_eq_false (by omega)]; rfl
    · have := Int.mul_neg_of_neg_of_pos h7 h8
      rw [decide_eq_true h7, decide_eq_false (by omega), decide_eq_true this]; rfl
    · have := Int.mul_neg_of_pos_of_neg h7 h8
      rw [decide_eq_false (by omega), decide_eq_true h8, decide_eq_true this]; rfl
    · have := Int.mul_pos h7 h8
      rw [decide_eq_false (by omega), decide_eq_false (by omega), decide_eq_false (by omega)]; rfl
  have hlt : (u * v).natAbs * 2 ^ 1074 < 2 ^ 2098 := by
    have h1 : (u * v).natAbs * 2 ^ 1074 ≤ 2 ^ 53 * 2 ^ 1074 := Nat.mul_le_mul_right _ h
    refine Nat.lt_of_le_of_lt h1 ?_
    rw [← Nat.pow_add]
    exact Nat.pow_lt_pow_right (by decide) (by decide)
  obtain ⟨R, g1, g2, g3⟩ := nearest_fin (neg := s ^^ t) (mag := m * n) (place := (a : Int) - 1074 + (b - 1074)) (a + b) 1074 (by omega) (c0 := (u * v).natAbs) (b0 := 1074) h (Nat.le_of_eq hprod) hlt
  have g4 := g2 _ 1074 h (Nat.le_of_eq hprod)
  have g5 := g3 _ 1074 h (Nat.le_of_eq hprod.symm)
  have g6 : R = (u * v).natAbs * 2 ^ 1074 := Nat.le_antisymm g4 g5
  refine ⟨_, ?_, s ^^ t, R, g1, ?_⟩
  · show double.mul x y = _
    unfold Format.mul
    rw [hm, hn]
    rfl
  · subst g6
    unfold sgn
    rw [Int.natCast_mul, cast_pow]
    by_cases h0 : u * v = 0
    · rw [h0]; simp
    · rw [hneg h0]
      rcases Int.lt_or_gt_of_ne h0 with h7 | h7
      · rw [decide_eq_true h7, if_pos rfl, ← Int.neg_mul]
        congr 1
        omega
      · rw [decide_eq_false (by omega), if_neg (by decide)]
        congr 1
        omega
theorem read_neg (x : Nat) : double.read (x ^^^ 2 ^ 63) = (double.read x).opposite := by
  have hs : double.signWeight = 2 ^ 63 := rfl
  have h1 : (x ^^^ 2 ^ 63) % 2 ^ 63 = x % 2 ^ 63 := by rw [Nat.xor_mod_two_pow, Nat.mod_self, Nat.xor_zero]
  have h2 : ((x ^^^ 2 ^ 63) / 2 ^ 63 % 2 == 1) = !(x / 2 ^ 63 % 2 == 1) := by
    rw [Nat.xor_div_two_pow, Nat.div_self (by decide)]
    have h3 : (x / 2 ^ 63 ^^^ 1) % 2 = (x / 2 ^ 63 % 2) ^^^ 1 := Nat.xor_mod_two_pow (n := 1)
    rw [h3]
    rcases Nat.mod_two_eq_zero_or_one (x / 2 ^ 63) with h4 | h4 <;> rw [h4] <;> rfl
  unfold Format.read
  simp only [hs, h1, h2]
  split
  · rfl
  · split
    · rfl
    · split <;> rfl
theorem isI_neg {x : Nat} {u : Int} (hx : IsI x u) : IsI (fNeg x) (-u) := by
  obtain ⟨s, M, h1, h2⟩ := hx
  obtain ⟨m, a, hm, rfl⟩ := fin_read h1
  refine ⟨!s, m * 2 ^ a, ?_, by rw [sgn_not, h2, Int.neg_mul]⟩
  show fin (x ^^^ 2 ^ 63) = _
  unfold fin
  rw [read_neg, hm]
  show some (!s, m * 2 ^ ((a : Int) - 1074 + 1074).toNat) = _
  rw [show ((a : Int) - 1074 + 1074).toNat = a by omega]
theorem isI_order {x y : Nat} {u v : Int} (hx : IsI x u) (hy : IsI y v) : double.order x y = some (compare u v) := by
  obtain ⟨s, M, h1, h2⟩ := hx
  obtain ⟨t, N, h3, h4⟩ := hy
  rw [order_fin h1 h3, h2, h4, compare_mul]
theorem isI_fEq {x y : Nat} {u v : Int} (hx : IsI x u) (hy : IsI y v) : fEq x y = decide (u = v) := by
  show (double.order x y == some .eq) = _
  rw [isI_order hx hy]
  rcases Int.lt_trichotomy u v with h | h | h
  · rw [cmp_lt h, decide_eq_false (by omega)]; rfl
  · rw [cmp_eq h, decide_eq_true h]; rfl
  · rw [cmp_gt h, decide_eq_false (by omega)]; rfl
theorem isI_fLe {x y : Nat} {u v : Int} (hx : IsI x u) (hy : IsI y v) : fLe x y = decide (u ≤ v) := by
  show (double.order x y == some .lt || double.order x y == some .eq) = _
  rw [isI_order hx hy]
  rcases Int.lt_trichotomy u v with h | h | h
  · rw [cmp_lt h, decide_eq_true (by omega)]; rfl
  · rw [cmp_eq h, decide_eq_true (by omega)]; rfl
  · rw [cmp_gt h, decide_eq_false (by omega)]; rfl
theorem isI_fGe {x y : Nat} {u v : Int} (hx : IsI x u) (hy : IsI y v) : fGe x y = decide (u ≥ v) := by
  show (double.order x y == some .gt || double.order x y == some .eq) = _
  rw [isI_order hx hy]
  rcases Int.lt_trichotomy u v with h | h | h
  · rw [cmp_lt h, decide_eq_false (by omega)]; rfl
  · rw [cmp_eq h, decide_eq_true (by omega)]; rfl
  · rw [cmp_gt h, decide_eq_true (by omega)]; rfl
theorem cut_exact {s : Bool} {n drop c : Nat} (h : n = c * 2 ^ drop) : Toward.zero.cut s n drop = c := by
  unfold Toward.cut
  simp only [Nat.shiftLeft_eq, Nat.one_mul, Bool.toNat_false, Nat.add_zero]
  by_cases hc : c = 0
  · subst hc; rw [h]; simp
  · have h1 : drop ≤ n.log2 := by
      have h2 : 2 ^ drop ≤ n := by rw [h]; exact Nat.le_mul_of_pos_left _ (by omega)
      have hn : n ≠ 0 := by have := Nat.two_pow_pos drop; omega
      exact (Nat.le_log2 hn).2 h2
    rw [Nat.min_eq_left (by omega), h, Nat.mul_div_cancel _ (Nat.two_pow_pos _)]
theorem sgn_mul (s : Bool) (n P : Nat) : sgn s (n * P) = sgn s n * (P : Int) := by
  unfold sgn
  rw [Int.natCast_mul]
  cases s
  · rfl
  · exact (Int.neg_mul _ _).symm
theorem cancel_pos {P : Nat} (hP : 0 < P) {a u : Int} (h : a * (P : Int) = u * P) : a = u := Int.eq_of_mul_eq_mul_right (by omega) h
theorem signed_abs {s : Bool} {u : Int} (h : sgn s (u.natAbs * 2 ^ 1074) = u * ((2 ^ 1074 : Nat) : Int)) : signed s u.natAbs 0 = u := by
  rw [sgn_mul] at h
  have := cancel_pos (Nat.two_pow_pos 1074) h
  unfold signed
  rw [Nat.shiftLeft_zero]
  exact this
theorem toNat_le {a : Nat} (h : a ≤ 1074) : ((a : Int) - 1074).toNat = 0 ∧ (-((a : Int) - 1074)).toNat = 1074 - a := by omega
theorem toNat_ge {a : Nat} (h : 1074 ≤ a) : ((a : Int) - 1074).toNat = a - 1074 ∧ (-((a : Int) - 1074)).toNat = 0 := by omega
theorem isI_fInt {x : Nat} {u : Int} (hx : IsI x u) (h : -9223372036854775808 ≤ u ∧ u ≤ 9223372036854775807) : fInt .i64 x = some u := by
  obtain ⟨s, M, h1, h2⟩ := hx
  have hM := IsI.mag h1 h2
  obtain ⟨m, a, hm, rfl⟩ := fin_read h1
  have hi : (FloatKind.f64.decode x).toInt .zero = some u := by
    show (double.read x).toInt .zero = some u
    rw [hm]
    have hc : Toward.zero.cut s (m <<< ((a : Int) - 1074).toNat) (-((a : Int) - 1074)).toNat = u.natAbs := by
      refine cut_exact ?_
      rw [Nat.shiftLeft_eq]
      rcases Nat.le_total a 1074 with ha | ha
      · rw [(toNat_le ha).1, (toNat_le ha).2, Nat.pow_zero, Nat.mul_one]
        have h3 : m * 2 ^ a = u.natAbs * 2 ^ (1074 - a) * 2 ^ a := by
          rw [hM, Nat.mul_assoc, ← Nat.pow_add, Nat.sub_add_cancel ha]
        exact Nat.eq_of_mul_eq_mul_right (Nat.two_pow_pos a) h3
      · rw [(toNat_ge ha).1, (toNat_ge ha).2, Nat.pow_zero, Nat.mul_one]
        have h3 : m * 2 ^ (a - 1074) * 2 ^ 1074 = u.natAbs * 2 ^ 1074 := by
          rw [← hM, Nat.mul_assoc, ← Nat.pow_add, Nat.sub_add_cancel ha]
        exact Nat.eq_of_mul_eq_mul_right (Nat.two_pow_pos 1074) h3
    simp only [Datum.toInt, Datum.integral, hc]
    exact congrArg some (signed_abs (by rw [← hM, cast_pow]; exact h2))
  show floatToIntVal .f64 x .i64 = some u
  unfold floatToIntVal
  rw [hi]
  show (if IntKind.min .i64 ≤ u ∧ u ≤ IntKind.max .i64 then some u else none) = some u
  exact if_pos h
theorem isI_0 : IsI 0 0 := ⟨false, 0, by rfl, by rfl⟩
theorem isI_1 : IsI 4607182418800017408 1 := isI_of (n := 1) (by decide)
theorem isI_m1 : IsI 13830554455654793216 (-1) := by
  have h := isI_of (n := -1) (by decide)
  rwa [show floatOfInt .f64 (-1) = 13830554455654793216 by decide +kernel] at h
end Go.Proofs.YtocijdlbpablkaaW.XI
