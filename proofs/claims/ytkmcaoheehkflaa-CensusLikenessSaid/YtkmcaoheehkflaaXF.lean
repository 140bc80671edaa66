import Ieee.Arith
namespace Go.Proofs.XF
open Ieee
set_option exponentiation.threshold 3000
theorem cut_le {neg : Bool} {n drop C : Nat} (h : n ≤ C * 2 ^ drop) : Toward.even.cut neg n drop ≤ C := by
  simp only [Toward.cut, Nat.shiftLeft_eq, Nat.one_mul]
  have hlog : n < 2 ^ (n.log2 + 1) := Nat.lt_log2_self
  rcases Nat.le_total drop (n.log2 + 2) with hd | hd
  · rw [Nat.min_eq_left hd]
    have hg : 0 < 2 ^ drop := Nat.two_pow_pos _
    generalize 2 ^ drop = g at *
    have h1 := Nat.div_add_mod n g
    have h2 := Nat.mod_lt n hg
    have h3 : n / g ≤ C := Nat.div_le_of_le_mul (by rw [Nat.mul_comm]; exact h)
    rcases Nat.eq_or_lt_of_le h3 with h4 | h4
    · have h5 : n % g = 0 := by
        rw [h4, Nat.mul_comm] at h1
        omega
      rw [h5, h4]
      have : ¬ (g < 0) := by omega
      have h6 : (g == 0) = false := by simp; omega
      simp [h6]
    · have : ∀ b : Bool, n / g + b.toNat ≤ C := fun b => by cases b <;> simp <;> omega
      exact this _
  · rw [Nat.min_eq_right hd]
    have hp : 2 ^ (n.log2 + 2) = 2 * 2 ^ (n.log2 + 1) := by rw [Nat.pow_succ, Nat.mul_comm]
    have h1 : n < 2 ^ (n.log2 + 2) := by omega
    rw [Nat.div_eq_of_lt h1, Nat.mod_eq_of_lt h1]
    have h2 : ¬ (2 ^ (n.log2 + 2) < 2 * n) := by omega
    have h3 : (2 ^ (n.log2 + 2) == 2 * n) = false := by simp; omega
    simp [h2, h3]
theorem le_cut {neg : Bool} {n drop C : Nat} (h : C * 2 ^ drop ≤ n) : C ≤ Toward.even.cut neg n drop := by
  simp only [Toward.cut, Nat.shiftLeft_eq, Nat.one_mul]
  have hlog : n < 2 ^ (n.log2 + 1) := Nat.lt_log2_self
  rcases Nat.le_total drop (n.log2 + 2) with hd | hd
  · rw [Nat.min_eq_left hd]
    have hg : 0 < 2 ^ drop := Nat.two_pow_pos _
    have : C ≤ n / 2 ^ drop := (Nat.le_div_iff_mul_le hg).2 h
    omega
  · have h1 : 2 ^ (n.log2 + 2) ≤ 2 ^ drop := Nat.pow_le_pow_right (by decide) hd
    have hp : 2 ^ (n.log2 + 2) = 2 * 2 ^ (n.log2 + 1) := by rw [Nat.pow_succ, Nat.mul_comm]
    rcases Nat.eq_zero_or_pos C with h0 | h0
    · rw [h0]; exact Nat.zero_le _
    · have := Nat.le_mul_of_pos_left (2 ^ drop) h0
      omega

/-- A finite word: its sign, and how many units of the least place it is. -/
def fin (x : Nat) : Option (Bool × Nat) := match double.read x with
  | .number s m p => some (s, m * 2 ^ (p + 1074).toNat)
  | _ => none

theorem read_word {neg : Bool} {rung : Nat} (h : rung < 2 ^ 63) : double.read (double.word neg rung) = 
    if rung < 2 ^ 52 then .number neg rung (-1074) else if rung < 2047 * 2 ^ 52 then .number neg (2 ^ 52 + rung % 2 ^ 52) (-1074 + (rung / 2 ^ 52 - 1 : Nat))
    else if rung = 2047 * 2 ^ 52 then .infinity neg else .nan neg (rung - 2047 * 2 ^ 52) := by
  have hs : double.signWeight = 2 ^ 63 := rfl
  have hb : double.binade = 2 ^ 52 := rfl
  have hi : double.infRung = 2047 * 2 ^ 52 := rfl
  have hl : double.leastPlace = -1074 := rfl
  have h1 : double.word neg rung % 2 ^ 63 = rung := by
    unfold Format.word
    rw [hs]
    cases neg <;> simp <;> omega
  have h2 : (double.word neg rung / 2 ^ 63 % 2 == 1) = neg := by
    unfold Format.word
    rw [hs]
    cases neg
    · simp; omega
    · simp; omega
  unfold Format.read
  simp only [hs, hb, hi, hl, h1, h2]

theorem fin_rung {neg : Bool} {L kept : Nat} (h2 : kept ≤ 2 ^ 53) (h3 : 0 < L → 2 ^ 52 ≤ kept) (hi : L * 2 ^ 52 + kept < 2047 * 2 ^ 52) :
    fin (double.word neg (L * 2 ^ 52 + kept)) = some (neg, kept * 2 ^ L) := by
  unfold fin
  rw [read_word (by omega)]
  by_cases h : L * 2 ^ 52 + kept < 2 ^ 52
  · have : L = 0 := by omega
    subst this
    rw [if_pos h]
    simp
  · rw [if_neg h, if_pos hi]
    rcases Nat.lt_or_ge kept (2 ^ 53) with hk | hk
    · have hk2 : 2 ^ 52 ≤ kept := by
        rcases Nat.eq_zero_or_pos L with h0 | h0
        · subst h0; omega
        · exact h3 h0
      have e1 : (L * 2 ^ 52 + kept) / 2 ^ 52 = L + 1 := by omega
      have e2 : (L * 2 ^ 52 + kept) % 2 ^ 52 = kept - 2 ^ 52 := by omega
      rw [e1, e2]
      have e3 : 2 ^ 52 + (kept - 2 ^ 52) = kept := by omega
      have e4 : (-1074 + ((L + 1 - 1 : Nat) : Int) + 1074).toNat = L := by omega
      simp only [e3, e4]
    · have hk : kept = 2 ^ 53 := Nat.le_antisymm h2 hk
      have e1 : (L * 2 ^ 52 + kept) / 2 ^ 52 = L + 2 := by omega
      have e2 : (L * 2 ^ 52 + kept) % 2 ^ 52 = 0 := by omega
      rw [e1, e2]
      have e4 : (-1074 + ((L + 2 - 1 : Nat) : Int) + 1074).toNat = L + 1 := by omega
      simp only [e4]
      have e5 : (2 ^ 52 + 0) * 2 ^ (L + 1) = kept * 2 ^ L := by
        rw [show 2 ^ (L + 1) = 2 ^ L * 2 from Nat.pow_succ ..,  hk, Nat.mul_comm (2 ^ L) 2, ← Nat.mul_assoc]
      rw [e5]

/-- What rounding gives, against bounds that are words themselves. -/
theorem nearest_fin {neg : Bool} {mag : Nat} {place : Int} (a D : Nat) (hp : place = a - D - 1074) {c0 b0 : Nat} (hc0 : c0 ≤ 2 ^ 53) (h0 : mag * 2 ^ a ≤ c0 * 2 ^ b0 * 2 ^ D) (hf : c0 * 2 ^ b0 < 2 ^ 2098) :
    ∃ M, fin (double.nearest neg mag place) = some (neg, M) ∧ (∀ c b, c ≤ 2 ^ 53 → mag * 2 ^ a ≤ c * 2 ^ b * 2 ^ D → M ≤ c * 2 ^ b) ∧ (∀ t, 2 ^ t * 2 ^ D ≤ mag * 2 ^ a → 2 ^ t ≤ M) := by
  by_cases hm : mag = 0
  · subst hm
    refine ⟨0, by unfold Format.nearest; rw [if_pos rfl]; cases neg <;> rfl, fun c b _ _ => Nat.zero_le _, fun t h => ?_⟩
    have := Nat.mul_pos (Nat.two_pow_pos t) (Nat.two_pow_pos D)
    omega
  obtain ⟨l, hl⟩ : ∃ l, l = mag.log2 := ⟨_, rfl⟩
  have hlo : 2 ^ l ≤ mag := by rw [hl]; exact Nat.log2_self_le hm
  have hhi : mag < 2 ^ (l + 1) := by rw [hl]; exact Nat.lt_log2_self
  obtain ⟨L, hL⟩ : ∃ L, L = (a + l) - (52 + D) := ⟨_, rfl⟩
  obtain ⟨drop, hdrop⟩ : ∃ d, d = (D + L) - a := ⟨_, rfl⟩
  obtain ⟨n, hn⟩ : ∃ n, n = mag * 2 ^ (a - (D + L)) := ⟨_, rfl⟩
  obtain ⟨kept, hkept⟩ : ∃ k, k = Toward.even.cut neg n drop := ⟨_, rfl⟩
  have hnear : double.nearest neg mag place = double.word neg (min (L * 2 ^ 52 + kept) (2047 * 2 ^ 52)) := by
    unfold Format.nearest
    rw [if_neg hm]
    have h1 : max (place + (mag.log2 : Int) - (double.fractionBits : Int)) double.leastPlace = (L : Int) - 1074 := by
      have e1 : double.leastPlace = -1074 := rfl
      have e2 : (double.fractionBits : Int) = 52 := rfl
      rw [e1, e2, ← hl]
      omega
    simp only [h1]
    have e1 : double.leastPlace = -1074 := rfl
    have h2 : (place - ((L : Int) - 1074)).toNat = a - (D + L) := by omega
    have h3 : ((L : Int) - 1074 - place).toNat = drop := by omega
    have h4 : ((L : Int) - 1074 - double.leastPlace).toNat = L := by rw [e1]; omega
    rw [h2, h3, h4, Nat.shiftLeft_eq, ← hn, ← hkept]
    rfl
  -- n and mag
  have hrel : n * 2 ^ (D + L) = mag * 2 ^ a * 2 ^ drop := by
    rw [hn, Nat.mul_assoc, Nat.mul_assoc, ← Nat.pow_add, ← Nat.pow_add]
    congr 2
    omega
  have up : ∀ C, mag * 2 ^ a ≤ C * 2 ^ (D + L) → kept ≤ C := by
    intro C h
    rw [hkept]
    refine cut_le ?_
    have h1 : n * 2 ^ (D + L) ≤ (C * 2 ^ drop) * 2 ^ (D + L) := by
      rw [hrel, Nat.mul_right_comm C]
      exact Nat.mul_le_mul_right _ h
    exact Nat.le_of_mul_le_mul_right h1 (Nat.two_pow_pos _)
  have dn : ∀ C, C * 2 ^ (D + L) ≤ mag * 2 ^ a → C ≤ kept := by
    intro C h
    rw [hkept]
    refine le_cut ?_
    have h1 : (C * 2 ^ drop) * 2 ^ (D + L) ≤ n * 2 ^ (D + L) := by
      rw [hrel, Nat.mul_right_comm C]
      exact Nat.mul_le_mul_right _ h
    exact Nat.le_of_mul_le_mul_right h1 (Nat.two_pow_pos _)
  have k53 : kept ≤ 2 ^ 53 := by
    refine up _ ?_
    have h1 : mag * 2 ^ a ≤ 2 ^ (l + 1) * 2 ^ a := Nat.mul_le_mul_right _ (Nat.le_of_lt hhi)
    refine Nat.le_trans h1 ?_
    rw [← Nat.pow_add, ← Nat.pow_add]
    exact Nat.pow_le_pow_right (by decide) (by omega)
  have big : 0 < L → 2 ^ (52 + (D + L)) ≤ mag * 2 ^ a := by
    intro h
    have h1 : 2 ^ l * 2 ^ a ≤ mag * 2 ^ a := Nat.mul_le_mul_right _ hlo
    refine Nat.le_trans ?_ h1
    rw [← Nat.pow_add]
    exact Nat.pow_le_pow_right (by decide) (by omega)
  have k52 : 0 < L → 2 ^ 52 ≤ kept := by
    intro h
    refine dn _ ?_
    rw [← Nat.pow_add]
    exact big h
  have upM : ∀ c b, c ≤ 2 ^ 53 → mag * 2 ^ a ≤ c * 2 ^ b * 2 ^ D → kept * 2 ^ L ≤ c * 2 ^ b := by
    intro c b hc h
    rcases Nat.lt_or_ge b L with hb | hb
    · have h1 := big (by omega)
      have h2 : c * 2 ^ b * 2 ^ D ≤ 2 ^ 53 * 2 ^ b * 2 ^ D := Nat.mul_le_mul_right _ (Nat.mul_le_mul_right _ hc)
      have h3 : 2 ^ 53 * 2 ^ b * 2 ^ D ≤ 2 ^ (52 + (D + L)) := by
        rw [← Nat.pow_add, ← Nat.pow_add]
        exact Nat.pow_le_pow_right (by decide) (by omega)
      have h4 : kept ≤ 2 ^ 52 := by
        refine up _ ?_
        rw [← Nat.pow_add]
        omega
      have h5 : kept * 2 ^ L ≤ 2 ^ 52 * 2 ^ L := Nat.mul_le_mul_right _ h4
      have h6 : 2 ^ 52 * 2 ^ L * 2 ^ D ≤ c * 2 ^ b * 2 ^ D := by
        rw [← Nat.pow_add, ← Nat.pow_add]
        refine Nat.le_trans ?_ (Nat.le_trans h1 h)
        exact Nat.pow_le_pow_right (by decide) (by omega)
      exact Nat.le_trans h5 (Nat.le_of_mul_le_mul_right h6 (Nat.two_pow_pos _))
    · have h1 : kept ≤ c * 2 ^ (b - L) := by
        refine up _ (Nat.le_trans h (Nat.le_of_eq ?_))
        rw [Nat.mul_assoc, Nat.mul_assoc, ← Nat.pow_add, ← Nat.pow_add]
        congr 2
        omega
      refine Nat.le_trans (Nat.mul_le_mul_right _ h1) (Nat.le_of_eq ?_)
      rw [Nat.mul_assoc, ← Nat.pow_add]
      congr 2
      omega
  have hM := upM c0 b0 hc0 h0
  have hin : L * 2 ^ 52 + kept < 2047 * 2 ^ 52 := by
    rcases Nat.eq_zero_or_pos L with h | h
    · subst h; clear hf hM h0 upM; omega
    · have h1 := k52 h
      have h2 : 2 ^ 52 * 2 ^ L ≤ kept * 2 ^ L := Nat.mul_le_mul_right _ h1
      have h3 := Nat.lt_of_le_of_lt h2 (Nat.lt_of_le_of_lt hM hf)
      rw [← Nat.pow_add] at h3
      have h4 : 52 + L < 2098 := (Nat.pow_lt_pow_iff_right (a := 2) (n := 52 + L) (m := 2098) (by decide)).1 h3
      clear h3 h2
      rcases Nat.lt_or_ge L 2045 with h5 | h5
      · clear hf hM h0 upM; omega
      · have h6 : L = 2045 := by clear hf hM h0 upM; omega
        have h7 : kept * 2 ^ L < 2 ^ 53 * 2 ^ L := by
          refine Nat.lt_of_lt_of_le (Nat.lt_of_le_of_lt hM hf) ?_
          rw [← Nat.pow_add]
          exact Nat.pow_le_pow_right (by decide) (by clear hf hM h0 upM; omega)
        have h8 := Nat.lt_of_mul_lt_mul_right h7
        clear hf hM h0 upM h7
        omega
  refine ⟨kept * 2 ^ L, ?_, upM, fun t h => ?_⟩
  · rw [hnear, Nat.min_eq_left (Nat.le_of_lt hin)]
    exact fin_rung k53 k52 hin
  · rcases Nat.lt_or_ge t L with ht | ht
    · have h1 := k52 (by omega)
      have h2 : 2 ^ 52 * 2 ^ L ≤ kept * 2 ^ L := Nat.mul_le_mul_right _ h1
      refine Nat.le_trans ?_ h2
      rw [← Nat.pow_add]
      exact Nat.pow_le_pow_right (by decide) (by omega)
    · have h1 : 2 ^ (t - L) ≤ kept := by
        refine dn _ (Nat.le_trans (Nat.le_of_eq ?_) h)
        rw [← Nat.pow_add, ← Nat.pow_add]
        congr 1
        omega
      refine Nat.le_trans (Nat.le_of_eq ?_) (Nat.mul_le_mul_right _ h1)
      rw [← Nat.pow_add]
      congr 1
      omega

theorem fin_read {x : Nat} {s : Bool} {M : Nat} (h : fin x = some (s, M)) : ∃ m a : Nat, double.read x = .number s m (a - 1074) ∧ M = m * 2 ^ a := by
  unfold fin at h
  have hl : double.leastPlace = -1074 := rfl
  split at h
  · rename_i s' m p he
    have hp : ∃ a : Nat, p = a - 1074 := by
      unfold Format.read at he
      simp only [hl] at he
      split at he
      · cases he
        exact ⟨0, by simp⟩
      · split at he
        · cases he
          exact ⟨x % double.signWeight / double.binade - 1, by omega⟩
        · split at he <;> cases he
    obtain ⟨a, rfl⟩ := hp
    cases h
    refine ⟨m, a, he, ?_⟩
    have : ((a : Int) - 1074 + 1074).toNat = a := by omega
    rw [this]
  · cases h

theorem signed_shift (s : Bool) (m b d : Nat) : signed s m (b + d) = signed s m b * 2 ^ d := by
  unfold signed
  simp only [Nat.shiftLeft_eq, Nat.pow_add]
  cases s <;> simp [Int.natCast_mul, Int.mul_assoc, Int.neg_mul]

/-- A number as a whole number of units. -/
def sgn (s : Bool) (M : Nat) : Int := if s then -(M : Int) else M
theorem signed_sgn (s : Bool) (m a : Nat) : signed s m a = sgn s (m * 2 ^ a) := by
  unfold signed sgn
  simp only [Nat.shiftLeft_eq]

theorem cmp_lt {x y : Int} (h : x < y) : compare x y = .lt := by
  show compareOfLessAndEq x y = _
  unfold compareOfLessAndEq
  rw [if_pos h]
theorem cmp_eq {x y : Int} (h : x = y) : compare x y = .eq := by
  show compareOfLessAndEq x y = _
  unfold compareOfLessAndEq
  rw [if_neg (by omega), if_pos h]
theorem cmp_gt {x y : Int} (h : y < x) : compare x y = .gt := by
  show compareOfLessAndEq x y = _
  unfold compareOfLessAndEq
  rw [if_neg (by omega), if_neg (by omega)]
theorem natAbs_signed (s : Bool) (m b : Nat) : (signed s m b).natAbs = m * 2 ^ b := by
  unfold signed
  rw [Nat.shiftLeft_eq]
  generalize m * 2 ^ b = z
  cases s <;> simp
theorem signed_nonneg (m b : Nat) : 0 ≤ signed false m b := by
  unfold signed
  simp only [Bool.false_eq_true, if_false]
  exact Int.natCast_nonneg _
theorem compare_mul (x y : Int) (d : Nat) : compare (x * 2 ^ d) (y * 2 ^ d) = compare x y := by
  have hp : (0 : Int) < 2 ^ d := Int.pow_pos (by omega)
  rcases Int.lt_trichotomy x y with h | h | h
  · rw [cmp_lt h, cmp_lt (Int.mul_lt_mul_of_pos_right h hp)]
  · subst h; rw [cmp_eq rfl, cmp_eq rfl]
  · rw [cmp_gt h, cmp_gt (Int.mul_lt_mul_of_pos_right h hp)]

theorem order_fin {x y : Nat} {s t : Bool} {M N : Nat} (hx : fin x = some (s, M)) (hy : fin y = some (t, N)) : double.order x y = some (compare (sgn s M) (sgn t N)) := by
  obtain ⟨m, a, hm, rfl⟩ := fin_read hx
  obtain ⟨n, b, hn, rfl⟩ := fin_read hy
  unfold Format.order
  rw [hm, hn]
  simp only [Datum.order]
  congr 1
  rw [← signed_sgn, ← signed_sgn]
  obtain ⟨d, hd⟩ : ∃ d, d = min a b := ⟨_, rfl⟩
  have e1 : ((a : Int) - 1074 - min ((a : Int) - 1074) ((b : Int) - 1074)).toNat = a - d := by omega
  have e2 : ((b : Int) - 1074 - min ((a : Int) - 1074) ((b : Int) - 1074)).toNat = b - d := by omega
  rw [e1, e2, ← compare_mul _ _ d, ← signed_shift, ← signed_shift]
  congr 2 <;> omega

theorem add_fin {x y : Nat} {s t : Bool} {M N c b : Nat} (hx : fin x = some (s, M)) (hy : fin y = some (t, N)) (hc : c ≤ 2 ^ 53) (h : M + N ≤ c * 2 ^ b) (hf : c * 2 ^ b < 2 ^ 2098) :
    ∃ r u R, double.add x y = some r ∧ fin r = some (u, R) ∧ R ≤ c * 2 ^ b ∧ (s = false → t = false → u = false) := by
  obtain ⟨m, a, hm, rfl⟩ := fin_read hx
  obtain ⟨n, b', hn, rfl⟩ := fin_read hy
  obtain ⟨d, hd⟩ : ∃ d, d = min a b' := ⟨_, rfl⟩
  have e1 : ((a : Int) - 1074 - min ((a : Int) - 1074) ((b' : Int) - 1074)).toNat = a - d := by omega
  have e2 : ((b' : Int) - 1074 - min ((a : Int) - 1074) ((b' : Int) - 1074)).toNat = b' - d := by omega
  have e3 : min ((a : Int) - 1074) ((b' : Int) - 1074) = (d : Int) - (0 : Nat) - 1074 := by omega
  obtain ⟨T, hT⟩ : ∃ T, T = signed s m (a - d) + signed t n (b' - d) := ⟨_, rfl⟩
  have hmag : T.natAbs * 2 ^ d ≤ c * 2 ^ b * 2 ^ 0 := by
    have h1 : T.natAbs * 2 ^ d ≤ m * 2 ^ a + n * 2 ^ b' := by
      have h2 : m * 2 ^ a = m * 2 ^ (a - d) * 2 ^ d := by rw [Nat.mul_assoc, ← Nat.pow_add]; congr 2; omega
      have h3 : n * 2 ^ b' = n * 2 ^ (b' - d) * 2 ^ d := by rw [Nat.mul_assoc, ← Nat.pow_add]; congr 2; omega
      rw [h2, h3, ← Nat.add_mul]
      refine Nat.mul_le_mul_right _ ?_
      rw [hT]
      refine Nat.le_trans (Int.natAbs_add_le _ _) ?_
      rw [natAbs_signed, natAbs_signed]
      exact Nat.le_refl _
    simpa using Nat.le_trans h1 h
  obtain ⟨R, h1, h2, h3⟩ := nearest_fin (neg := if T = 0 then s && t else decide (T < 0)) d 0 rfl hc hmag hf
  refine ⟨_, _, R, ?_, h1, h2 c b hc hmag, ?_⟩
  · unfold Format.add
    rw [hm, hn]
    simp only [Datum.sum, Option.map_some, Format.write]
    rw [e1, e2, ← hT, ← e3]
  · rintro rfl rfl
    by_cases h0 : T = 0
    · rw [if_pos h0]; rfl
    · rw [if_neg h0]
      have : ¬ (T < 0) := by
        rw [hT]
        have g1 := signed_nonneg m (a - d)
        have g2 := signed_nonneg n (b' - d)
        omega
      simp [this]

theorem read_opposite (y : Nat) {s : Bool} {m : Nat} {p : Int} (h : double.read y = .number s m p) : (double.read y).opposite = .number (!s) m p := by rw [h]; rfl

theorem sub_fin {x y : Nat} {s t : Bool} {M N c b : Nat} (hx : fin x = some (s, M)) (hy : fin y = some (t, N)) (hc : c ≤ 2 ^ 53) (h : M + N ≤ c * 2 ^ b) (hf : c * 2 ^ b < 2 ^ 2098) :
    ∃ r u R, double.sub x y = some r ∧ fin r = some (u, R) ∧ R ≤ c * 2 ^ b := by
  obtain ⟨m, a, hm, rfl⟩ := fin_read hx
  obtain ⟨n, b', hn, rfl⟩ := fin_read hy
  obtain ⟨d, hd⟩ : ∃ d, d = min a b' := ⟨_, rfl⟩
  have e1 : ((a : Int) - 1074 - min ((a : Int) - 1074) ((b' : Int) - 1074)).toNat = a - d := by omega
  have e2 : ((b' : Int) - 1074 - min ((a : Int) - 1074) ((b' : Int) - 1074)).toNat = b' - d := by omega
  have e3 : min ((a : Int) - 1074) ((b' : Int) - 1074) = (d : Int) - (0 : Nat) - 1074 := by omega
  obtain ⟨T, hT⟩ : ∃ T, T = signed s m (a - d) + signed (!t) n (b' - d) := ⟨_, rfl⟩
  have hmag : T.natAbs * 2 ^ d ≤ c * 2 ^ b * 2 ^ 0 := by
    have h1 : T.natAbs * 2 ^ d ≤ m * 2 ^ a + n * 2 ^ b' := by
      have h2 : m * 2 ^ a = m * 2 ^ (a - d) * 2 ^ d := by rw [Nat.mul_assoc, ← Nat.pow_add]; congr 2; omega
      have h3 : n * 2 ^ b' = n * 2 ^ (b' - d) * 2 ^ d := by rw [Nat.mul_assoc, ← Nat.pow_add]; congr 2; omega
      rw [h2, h3, ← Nat.add_mul]
      refine Nat.mul_le_mul_right _ ?_
      rw [hT]
      refine Nat.le_trans (Int.natAbs_add_le _ _) ?_
      rw [natAbs_signed, natAbs_signed]
      exact Nat.le_refl _
    simpa using Nat.le_trans h1 h
  obtain ⟨R, h1, h2, h3⟩ := nearest_fin (neg := if T = 0 then s && !t else decide (T < 0)) d 0 rfl hc hmag hf
  refine ⟨_, _, R, ?_, h1, h2 c b hc hmag⟩
  unfold Format.sub
  rw [read_opposite y hn, hm]
  simp only [Datum.sum, Option.map_some, Format.write]
  rw [e1, e2, ← hT, ← e3]

theorem mul_fin {x y : Nat} {s t : Bool} {M N c b : Nat} (hx : fin x = some (s, M)) (hy : fin y = some (t, N)) (hc : c ≤ 2 ^ 53) (h : M * N ≤ c * 2 ^ b * 2 ^ 1074) (hf : c * 2 ^ b < 2 ^ 2098) :
    ∃ r R, double.mul x y = some r ∧ fin r = some (s ^^ t, R) ∧ R ≤ c * 2 ^ b ∧ ∀ t, 2 ^ t * 2 ^ 1074 ≤ M * N → 2 ^ t ≤ R := by
  obtain ⟨m, a, hm, rfl⟩ := fin_read hx
  obtain ⟨n, b', hn, rfl⟩ := fin_read hy
  have e : m * 2 ^ a * (n * 2 ^ b') = m * n * 2 ^ (a + b') := by
    rw [Nat.pow_add, Nat.mul_assoc, Nat.mul_assoc, Nat.mul_left_comm (2 ^ a)]
  rw [e] at h ⊢
  obtain ⟨R, h1, h2, h3⟩ := nearest_fin (neg := s ^^ t) (place := (a : Int) - 1074 + (b' - 1074)) (a + b') 1074 (by omega) hc h hf
  refine ⟨_, R, ?_, h1, h2 c b hc h, h3⟩
  unfold Format.mul
  rw [hm, hn]
  rfl

/-- A quotient by no less than one. -/
theorem div_fin {x y : Nat} {s t : Bool} {M N b : Nat} (hx : fin x = some (s, M)) (hy : fin y = some (t, N)) (hN : 2 ^ 1074 ≤ N) (h : M ≤ 2 ^ b) (hf : b < 2098) :
    ∃ r R, double.div x y = some r ∧ fin r = some (s ^^ t, R) ∧ R ≤ 2 ^ b := by
  obtain ⟨m, a, hm, rfl⟩ := fin_read hx
  obtain ⟨n, b', hn, rfl⟩ := fin_read hy
  have hn0 : n ≠ 0 := by
    rintro rfl
    have := Nat.two_pow_pos 1074
    omega
  have hnl : n < 2 ^ (n.log2 + 1) := Nat.lt_log2_self
  have h1 : 1074 < b' + n.log2 + 1 := by
    refine (Nat.pow_lt_pow_iff_right (a := 2) (by omega)).1 ?_
    refine Nat.lt_of_le_of_lt hN ?_
    have := Nat.mul_lt_mul_of_pos_right hnl (Nat.two_pow_pos b')
    rw [← Nat.pow_add] at this
    refine Nat.lt_of_lt_of_le this (Nat.pow_le_pow_right (by decide) (by omega))
  obtain ⟨more, hmore⟩ : ∃ k, k = 54 + n.log2 - m.log2 := ⟨_, rfl⟩
  have h2 : m = 0 ∨ m.log2 + a ≤ b := by
    rcases Nat.eq_zero_or_pos m with h0 | h0
    · exact .inl h0
    · refine .inr ((Nat.pow_le_pow_iff_right (a := 2) (by omega)).1 (Nat.le_trans ?_ h))
      rw [Nat.pow_add]
      exact Nat.mul_le_mul_right _ (Nat.log2_self_le (by omega))
  obtain ⟨d, hd⟩ : ∃ d, d = m * 2 ^ more := ⟨_, rfl⟩
  obtain ⟨C, hC, hC2⟩ : ∃ C, d ≤ n * C ∧ 2 * C * 2 ^ (a + 1074) ≤ 1 * 2 ^ b * 2 ^ (b' + more + 1) := by
    rcases h2 with rfl | h2
    · exact ⟨0, by rw [hd]; simp, by simp⟩
    · refine ⟨2 ^ (b + more + b' - (a + 1074)), ?_, ?_⟩
      · have h3 : d * 2 ^ (a + 1074) ≤ n * 2 ^ (b + more + b' - (a + 1074)) * 2 ^ (a + 1074) := by
          rw [Nat.mul_assoc n, ← Nat.pow_add]
          have e1 : b + more + b' - (a + 1074) + (a + 1074) = b' + (b + more) := by omega
          rw [e1, Nat.pow_add 2 b', ← Nat.mul_assoc, hd]
          have e2 : m * 2 ^ more * 2 ^ (a + 1074) = 2 ^ 1074 * (m * 2 ^ a * 2 ^ more) := by
            rw [Nat.pow_add 2 a, ← Nat.mul_assoc, Nat.mul_right_comm m, Nat.mul_comm]
          rw [e2]
          refine Nat.mul_le_mul hN ?_
          rw [Nat.pow_add 2 b]
          exact Nat.mul_le_mul_right _ h
        exact Nat.le_of_mul_le_mul_right h3 (Nat.two_pow_pos _)
      · rw [Nat.one_mul, ← Nat.pow_add]
        have e1 : 2 * 2 ^ (b + more + b' - (a + 1074)) * 2 ^ (a + 1074) = 2 ^ ((b + more + b' - (a + 1074)) + 1 + (a + 1074)) := by rw [Nat.mul_comm 2, ← Nat.pow_succ, ← Nat.pow_add]
        rw [e1]
        exact Nat.pow_le_pow_right (by decide) (by clear hN h hx hy; omega)
  have hle : 2 * (d / n) + (d % n != 0).toNat ≤ 2 * C := by
    have h4 : d / n ≤ C := Nat.div_le_of_le_mul hC
    have h5 := Nat.div_add_mod d n
    rcases Nat.eq_or_lt_of_le h4 with h6 | h6
    · have : d % n = 0 := by rw [h6] at h5; omega
      simp [this, h6]
    · have : ∀ q : Bool, 2 * (d / n) + q.toNat ≤ 2 * C := fun q => by cases q <;> simp <;> omega
      exact this _
  have hmag := Nat.le_trans (Nat.mul_le_mul_right (2 ^ (a + 1074)) hle) hC2
  obtain ⟨R, g1, g2, g3⟩ := nearest_fin (neg := s ^^ t) (place := (a : Int) - 1074 - (b' - 1074) - more - 1) (a + 1074) (b' + more + 1) (by omega) (by omega) hmag (by rw [Nat.one_mul]; exact Nat.pow_lt_pow_right (a := 2) (m := b) (n := 2098) (by decide) hf)
  refine ⟨_, R, ?_, g1, by have := g2 1 b (by omega) hmag; rwa [Nat.one_mul] at this⟩
  unfold Format.div
  rw [hm, hn]
  simp only [Datum.quotient, if_neg hn0, Option.map_some, Format.write, Nat.shiftLeft_eq]
  have e9 : double.fractionBits + 2 + n.log2 - m.log2 = more := hmore.symm
  rw [e9, ← hd]

theorem rootFrom_spec (n : Nat) : ∀ (todo root : Nat), root * root ≤ n → n < (root + 2 ^ todo) * (root + 2 ^ todo) →
    Datum.rootFrom n todo root * Datum.rootFrom n todo root ≤ n ∧ n < (Datum.rootFrom n todo root + 1) * (Datum.rootFrom n todo root + 1) := by
  intro todo
  induction todo with
  | zero => intro root h1 h2; exact ⟨by simpa [Datum.rootFrom] using h1, by simpa [Datum.rootFrom] using h2⟩
  | succ todo ih =>
    intro root h1 h2
    rw [Nat.pow_succ] at h2
    unfold Datum.rootFrom
    simp only [Nat.shiftLeft_eq, Nat.one_mul]
    split
    · rename_i h
      refine ih _ h ?_
      rw [Nat.add_assoc, ← Nat.mul_two]
      exact h2
    · rename_i h
      exact ih _ h1 (by omega)

/-- The square root of a number that is not nought. -/
theorem sqrt_fin {x : Nat} {M e : Nat} (hx : fin x = some (false, M)) (h0 : M ≠ 0) (h : M ≤ 2 ^ (2 * e + 1074)) (hf : e + 1074 < 2098) :
    ∃ r R, double.sqrt x = some r ∧ fin r = some (false, R) ∧ R ≤ 2 ^ (e + 1074) ∧ 2 ^ 537 ≤ R := by
  obtain ⟨m, a, hm, rfl⟩ := fin_read hx
  have hm0 : m ≠ 0 := by rintro rfl; simp at h0
  obtain ⟨more0, hmore0⟩ : ∃ k : Nat, k = 2 * 54 - m.log2 := ⟨_, rfl⟩
  obtain ⟨more, hmore⟩ : ∃ k : Nat, k = more0 + (((a : Int) - 1074 - more0) % 2).toNat := ⟨_, rfl⟩
  obtain ⟨hh, heven⟩ : ∃ hh : Int, (a : Int) - 1074 - more = 2 * hh := ⟨((a : Int) - 1074 - more) / 2, by omega⟩
  obtain ⟨n, hn⟩ : ∃ n, n = m * 2 ^ more := ⟨_, rfl⟩
  have hn1 : 0 < n := by rw [hn]; exact Nat.mul_pos (by omega) (Nat.two_pow_pos _)
  obtain ⟨W, hW⟩ : ∃ W, W = Datum.rootFrom n (n.log2 / 2 + 1) 0 := ⟨_, rfl⟩
  have hspec : W * W ≤ n ∧ n < (W + 1) * (W + 1) := by
    rw [hW]
    refine rootFrom_spec n _ 0 (by omega) ?_
    rw [Nat.zero_add, ← Nat.pow_add]
    exact Nat.lt_of_lt_of_le Nat.lt_log2_self (Nat.pow_le_pow_right (by decide) (by omega))
  -- whole bounds by powers
  have lo : ∀ k, 2 ^ (k + k) ≤ n → 2 ^ k ≤ W := by
    intro k hk
    rcases Nat.lt_or_ge W (2 ^ k) with h1 | h1
    · have h2 : (W + 1) * (W + 1) ≤ 2 ^ k * 2 ^ k := Nat.mul_le_mul h1 h1
      rw [← Nat.pow_add] at h2
      omega
    · exact h1
  have hi : ∀ k, n ≤ 2 ^ (k + k) → 2 * W + (W * W != n).toNat ≤ 2 * 2 ^ k := by
    intro k hk
    rw [Nat.pow_add] at hk
    have h1 : W ≤ 2 ^ k := by
      rcases Nat.lt_or_ge (2 ^ k) W with h1 | h1
      · have h2 : (2 ^ k + 1) * (2 ^ k + 1) ≤ W * W := Nat.mul_le_mul h1 h1
        have h3 : (2 ^ k + 1) * (2 ^ k + 1) = 2 ^ k * 2 ^ k + 2 ^ k + 2 ^ k + 1 := by rw [Nat.add_mul, Nat.mul_add]; omega
        have h4 := Nat.two_pow_pos k
        omega
      · exact h1
    rcases Nat.eq_or_lt_of_le h1 with h2 | h2
    · have : W * W = n := by
        have h3 := hspec.1
        rw [h2] at h3 ⊢
        omega
      rw [this, h2]
      simp
    · have : ∀ q : Bool, 2 * W + q.toNat ≤ 2 * 2 ^ k := fun q => by cases q <;> simp <;> omega
      exact this _
  -- the scale: n * 2 ^ (2 * hh) is the number
  obtain ⟨A, hA⟩ : ∃ A : Nat, A = (hh - 1 + 1074).toNat := ⟨_, rfl⟩
  obtain ⟨D, hD⟩ : ∃ D : Nat, D = (-(hh - 1) - 1074).toNat := ⟨_, rfl⟩
  have hAD : hh - 1 = (A : Int) - D - 1074 := by omega
  obtain ⟨k1, hk1⟩ : ∃ k : Nat, k = ((e : Int) - hh).toNat := ⟨_, rfl⟩
  have hle : (0 : Int) ≤ (e : Int) - hh := by
    -- n ≥ 1: 2 ^ (2 hh) ≤ 2 ^ (2 e)
    have h1 : 2 ^ a ≤ m * 2 ^ a := Nat.le_mul_of_pos_left _ (by omega)
    have h2 : a + m.log2 ≤ 2 * e + 1074 := by
      refine (Nat.pow_le_pow_iff_right (a := 2) (by omega)).1 (Nat.le_trans ?_ h)
      rw [Nat.add_comm, Nat.pow_add]
      exact Nat.mul_le_mul_right _ (Nat.log2_self_le hm0)
    omega
  have hn2 : n ≤ 2 ^ (k1 + k1) := by
    -- m 2^a ≤ 2^(2e+1074), n = m 2^more, a - 1074 - more = 2 hh, 2 e - 2 hh = k1 + k1
    have h1 : m * 2 ^ a * 2 ^ more ≤ 2 ^ (2 * e + 1074) * 2 ^ more := Nat.mul_le_mul_right _ h
    have h2 : n * 2 ^ a ≤ 2 ^ (k1 + k1) * 2 ^ a := by
      rw [hn, Nat.mul_right_comm]
      refine Nat.le_trans h1 (Nat.le_of_eq ?_)
      rw [← Nat.pow_add, ← Nat.pow_add]
      congr 1
      omega
    exact Nat.le_of_mul_le_mul_right h2 (Nat.two_pow_pos _)
  have hmag : (2 * W + (W * W != n).toNat) * 2 ^ A ≤ 1 * 2 ^ (e + 1074) * 2 ^ D := by
    refine Nat.le_trans (Nat.mul_le_mul_right _ (hi k1 hn2)) (Nat.le_of_eq ?_)
    rw [Nat.one_mul, ← Nat.pow_add, Nat.mul_comm 2, ← Nat.pow_succ, ← Nat.pow_add]
    congr 1
    omega
  obtain ⟨R, g1, g2, g3⟩ := nearest_fin (neg := false) (place := hh - 1) A D hAD (by omega) hmag (by rw [Nat.one_mul]; exact Nat.pow_lt_pow_right (a := 2) (m := e + 1074) (n := 2098) (by decide) hf)
  refine ⟨_, R, ?_, g1, by have := g2 1 (e + 1074) (by omega) hmag; rwa [Nat.one_mul] at this, ?_⟩
  · unfold Format.sqrt
    rw [hm]
    simp only [Datum.root, if_neg hm0, Nat.shiftLeft_eq]
    have e9 : 2 * (double.fractionBits + 2) - m.log2 = more0 := hmore0.symm
    rw [e9, ← hmore, ← hn, ← hW]
    have e10 : ((a : Int) - 1074 - more) / 2 - 1 = hh - 1 := by omega
    simp [e10, Format.write]
  · refine g3 537 ?_
    obtain ⟨k0, hk0⟩ : ∃ k : Nat, k = (-537 - hh).toNat := ⟨_, rfl⟩
    have h1 : 2 ^ k0 ≤ W := by
      refine lo k0 ?_
      rcases Nat.eq_zero_or_pos k0 with h2 | h2
      · rw [h2]; exact hn1
      · -- n 2^(2hh) ≥ 2^-1074
        have h3 : 2 ^ more ≤ n := by rw [hn]; exact Nat.le_mul_of_pos_left _ (by omega)
        refine Nat.le_trans (Nat.pow_le_pow_right (by decide) ?_) h3
        omega
    have h2 : 2 * 2 ^ k0 * 2 ^ A ≤ (2 * W + (W * W != n).toNat) * 2 ^ A := Nat.mul_le_mul_right _ (by omega)
    refine Nat.le_trans ?_ h2
    rw [Nat.mul_comm 2, ← Nat.pow_succ, ← Nat.pow_add, ← Nat.pow_add]
    exact Nat.pow_le_pow_right (by decide) (by omega)
end Go.Proofs.XF
