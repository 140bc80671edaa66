/- Two tables of counts whose sums are one number are one table. -/
import Derived.Test.YtfgoplgdhnjkdaaPn
namespace Go.Proofs.Ytfgoplgdhnjkdaa.Be
/-- A row of digits as one number. -/
def ev (c : Nat → Nat) : Nat → Nat
  | 0 => 0
  | m + 1 => ev c m + c m * 16 ^ m
theorem ev_congr {c c' : Nat → Nat} : ∀ {m : Nat}, (∀ e, e < m → c e = c' e) → ev c m = ev c' m
  | 0, _ => rfl
  | m + 1, h => by rw [ev, ev, ev_congr (fun e he => h e (by omega)), h m (by omega)]
theorem ev_add (c c' : Nat → Nat) : ∀ m, ev (fun e => c e + c' e) m = ev c m + ev c' m
  | 0 => rfl
  | m + 1 => by rw [ev, ev, ev, ev_add c c' m, Nat.add_mul]; omega
theorem ev_zero : ∀ m, ev (fun _ => 0) m = 0
  | 0 => rfl
  | m + 1 => by rw [ev, ev_zero m]; simp
theorem ev_delta {e0 : Nat} : ∀ {m : Nat}, e0 < m → ev (fun e => if e = e0 then 1 else 0) m = 16 ^ e0
  | 0, h => absurd h (Nat.not_lt_zero _)
  | m + 1, h => by
    rw [ev]
    by_cases hm : m = e0
    · subst hm
      rw [if_pos rfl, ev_congr (c' := fun _ => 0) (fun e he => if_neg (by omega)), ev_zero]
      simp
    · rw [if_neg hm, ev_delta (by omega)]
      simp
theorem ev_lt {c : Nat → Nat} (h : ∀ e, c e < 16) : ∀ m, ev c m < 16 ^ m
  | 0 => Nat.one_pos
  | m + 1 => by
    rw [ev, Nat.pow_succ]
    have h1 := ev_lt h m
    have h2 : c m * 16 ^ m ≤ 15 * 16 ^ m := Nat.mul_le_mul_right _ (by have := h m; omega)
    omega
theorem ev_inj {c c' : Nat → Nat} (h : ∀ e, c e < 16) (h' : ∀ e, c' e < 16) : ∀ {m : Nat}, ev c m = ev c' m → ∀ e, e < m → c e = c' e
  | 0, _, e, he => absurd he (Nat.not_lt_zero _)
  | m + 1, hm, e, he => by
    rw [ev, ev] at hm
    have l1 := ev_lt h m
    have l2 := ev_lt h' m
    have hp : 0 < 16 ^ m := Nat.pow_pos (by decide)
    have e1 : (ev c m + c m * 16 ^ m) / 16 ^ m = c m := by rw [Nat.add_mul_div_right _ _ hp, Nat.div_eq_of_lt l1]; omega
    have e2 : (ev c' m + c' m * 16 ^ m) / 16 ^ m = c' m := by rw [Nat.add_mul_div_right _ _ hp, Nat.div_eq_of_lt l2]; omega
    have e3 : c m = c' m := by rw [← e1, ← e2, hm]
    rcases Nat.lt_or_ge e m with h3 | h3
    · refine ev_inj h h' ?_ e h3
      rw [e3] at hm
      omega
    · rw [show e = m by omega, e3]

/-- How often a cell is counted beside another one, the first d places gone through. -/
def ct (g : Nat → Option (Option Nat)) (b : Nat) : Nat → Nat
  | 0 => 0
  | d + 1 => ct g b d + (if d ≠ 4 ∧ g d = some (some b) then 1 else 0)
theorem ct_le (g : Nat → Option (Option Nat)) (b : Nat) : ∀ d, ct g b d ≤ d
  | 0 => Nat.le_refl _
  | d + 1 => by rw [ct]; have := ct_le g b d; split <;> omega

theorem place_iff {n a b e : Nat} (hb : b < n) : e = n * a + b ↔ e / n = a ∧ e % n = b := by
  have hn : 0 < n := by omega
  constructor
  · rintro rfl
    rw [Nat.mul_add_div hn, Nat.div_eq_of_lt hb, Nat.mul_add_mod, Nat.mod_eq_of_lt hb]
    exact ⟨rfl, rfl⟩
  · rintro ⟨rfl, rfl⟩
    exact (Nat.div_add_mod e n).symm

theorem acc_ev {g : Nat → Option (Option Nat)} {n a : Nat} (ha : a < n) : ∀ {d : Nat} {A B : Nat}, (∀ d' b, d' < d → g d' = some (some b) → b < n) → acc g n a d = some (A, B) →
    A = ev (fun e => if e / n = a then ct g (e % n) d else 0) (n * n) ∧ B = ev (fun e => if e % n = a then ct g (e / n) d else 0) (n * n) ∧ ∀ d', d' < d → ∃ r, g d' = some r
  | 0, A, B, _, h => by
    rw [acc] at h
    cases h
    refine ⟨?_, ?_, fun d' h => absurd h (Nat.not_lt_zero _)⟩
    · rw [ev_congr (c' := fun _ => 0) (fun e _ => by simp [ct]), ev_zero]
    · rw [ev_congr (c' := fun _ => 0) (fun e _ => by simp [ct]), ev_zero]
  | d + 1, A, B, hb, h => by
    rw [acc] at h
    cases h1 : acc g n a d with
    | none => rw [h1] at h; cases h
    | some p =>
      obtain ⟨A0, B0⟩ := p
      rw [h1] at h
      obtain ⟨i1, i2, i3⟩ := acc_ev ha (fun d' b hd => hb d' b (by omega)) h1
      cases h2 : g d with
      | none => rw [h2] at h; cases h
      | some r =>
        rw [h2] at h
        have i4 : ∀ d', d' < d + 1 → ∃ r, g d' = some r := by
          intro d' hd'
          rcases Nat.lt_or_ge d' d with h3 | h3
          · exact i3 d' h3
          · rw [show d' = d by omega]; exact ⟨_, h2⟩
        have same : (∀ b, ct g b (d + 1) = ct g b d) → (A0, B0) = (A, B) → A = ev (fun e => if e / n = a then ct g (e % n) (d + 1) else 0) (n * n) ∧ B = ev (fun e => if e % n = a then ct g (e / n) (d + 1) else 0) (n * n) ∧ ∀ d', d' < d + 1 → ∃ r, g d' = some r := by
          intro hs hp
          cases hp
          refine ⟨?_, ?_, i4⟩
          · rw [i1]; exact ev_congr fun e _ => by rw [hs]
          · rw [i2]; exact ev_congr fun e _ => by rw [hs]
        cases r with
        | none =>
          refine same (fun b => ?_) (Option.some.inj h)
          rw [ct, if_neg (by rw [h2]; simp)]
          omega
        | some b =>
          replace h : (if d = 4 then some (A0, B0) else some (A0 + 16 ^ (n * a + b), B0 + 16 ^ (n * b + a))) = some (A, B) := h
          have hbn := hb d b (by omega) h2
          by_cases h4 : d = 4
          · rw [if_pos h4] at h
            refine same (fun b' => ?_) (Option.some.inj h)
            rw [ct, if_neg (by simp [h4])]
            omega
          · rw [if_neg h4] at h
            cases h
            refine ⟨?_, ?_, i4⟩
            · rw [i1, ← ev_delta (e0 := n * a + b) (m := n * n) ?_, ← ev_add]
              · refine ev_congr fun e _ => ?_
                by_cases he : e = n * a + b
                · obtain ⟨p1, p2⟩ := (place_iff hbn).1 he
                  rw [if_pos he, if_pos p1, if_pos p1, ct, p2, if_pos ⟨h4, h2⟩]
                · rw [if_neg he]
                  by_cases p1 : e / n = a
                  · rw [if_pos p1, if_pos p1, ct, if_neg]
                    rintro ⟨_, q⟩
                    rw [h2] at q
                    cases q
                    exact he ((place_iff hbn).2 ⟨p1, rfl⟩)
                  · rw [if_neg p1, if_neg p1]
              · calc n * a + b < n * a + n := by omega
                  _ = n * (a + 1) := by rw [Nat.mul_succ]
                  _ ≤ n * n := Nat.mul_le_mul_left _ ha
            · rw [i2, ← ev_delta (e0 := n * b + a) (m := n * n) ?_, ← ev_add]
              · refine ev_congr fun e _ => ?_
                by_cases he : e = n * b + a
                · obtain ⟨p1, p2⟩ := (place_iff ha).1 he
                  rw [if_pos he, if_pos p2, if_pos p2, ct, p1, if_pos ⟨h4, h2⟩]
                · rw [if_neg he]
                  by_cases p1 : e % n = a
                  · rw [if_pos p1, if_pos p1, ct, if_neg]
                    rintro ⟨_, q⟩
                    rw [h2] at q
                    cases q
                    exact he ((place_iff ha).2 ⟨rfl, p1⟩)
                  · rw [if_neg p1, if_neg p1]
              · calc n * b + a < n * b + n := by omega
                  _ = n * (b + 1) := by rw [Nat.mul_succ]
                  _ ≤ n * n := Nat.mul_le_mul_left _ hbn

theorem accs_ev {g : Nat → Nat → Option (Option Nat)} {n : Nat} : ∀ {i : Nat} {A B : Nat}, i ≤ n → (∀ a d b, a < i → d < 9 → g a d = some (some b) → b < n) → accs g n i = some (A, B) →
    A = ev (fun e => if e / n < i then ct (g (e / n)) (e % n) 9 else 0) (n * n) ∧ B = ev (fun e => if e % n < i then ct (g (e % n)) (e / n) 9 else 0) (n * n) ∧ ∀ a d, a < i → d < 9 → ∃ r, g a d = some r
  | 0, A, B, _, _, h => by
    rw [accs] at h
    cases h
    refine ⟨?_, ?_, fun a d h => absurd h (Nat.not_lt_zero _)⟩
    · rw [ev_congr (c' := fun _ => 0) (fun e _ => if_neg (Nat.not_lt_zero _)), ev_zero]
    · rw [ev_congr (c' := fun _ => 0) (fun e _ => if_neg (Nat.not_lt_zero _)), ev_zero]
  | i + 1, A, B, hi, hb, h => by
    rw [accs] at h
    cases h1 : accs g n i with
    | none => rw [h1] at h; cases h
    | some p =>
      obtain ⟨A0, B0⟩ := p
      rw [h1] at h
      cases h2 : acc (g i) n i 9 with
      | none => rw [h2] at h; cases h
      | some q =>
        obtain ⟨A1, B1⟩ := q
        rw [h2] at h
        cases h
        obtain ⟨i1, i2, i3⟩ := accs_ev (by omega) (fun a d b ha => hb a d b (by omega)) h1
        obtain ⟨j1, j2, j3⟩ := acc_ev (by omega) (fun d b hd => hb i d b (by omega) (by omega)) h2
        refine ⟨?_, ?_, fun a d ha hd => ?_⟩
        · rw [i1, j1, ← ev_add]
          refine ev_congr fun e _ => ?_
          by_cases p1 : e / n < i
          · rw [if_pos p1, if_neg (by omega), if_pos (by omega)]; omega
          · by_cases p2 : e / n = i
            · rw [if_neg p1, if_pos p2, if_pos (by omega), p2]; omega
            · rw [if_neg p1, if_neg p2, if_neg (by omega)]
        · rw [i2, j2, ← ev_add]
          refine ev_congr fun e _ => ?_
          by_cases p1 : e % n < i
          · rw [if_pos p1, if_neg (by omega), if_pos (by omega)]; omega
          · by_cases p2 : e % n = i
            · rw [if_neg p1, if_pos p2, if_pos (by omega), p2]; omega
            · rw [if_neg p1, if_neg p2, if_neg (by omega)]
        · rcases Nat.lt_or_ge a i with h3 | h3
          · exact i3 a d h3 hd
          · rw [show a = i by omega]; exact j3 d hd

theorem mutual_of {g : Nat → Nat → Option (Option Nat)} {n A B : Nat} (hb : ∀ a d b, a < n → d < 9 → g a d = some (some b) → b < n) (h : accs g n n = some (A, B)) (he : A = B) :
    (∀ a d, a < n → d < 9 → ∃ r, g a d = some r) ∧ ∀ a b, a < n → b < n → ct (g a) b 9 = ct (g b) a 9 := by
  obtain ⟨h1, h2, h3⟩ := accs_ev (Nat.le_refl _) hb h
  refine ⟨h3, fun a b ha hbn => ?_⟩
  rw [h1, h2] at he
  have l : ∀ g b, ct g b 9 < 16 := fun g b => by have := ct_le g b 9; omega
  have lt : n * a + b < n * n := calc n * a + b < n * a + n := by omega
    _ = n * (a + 1) := by rw [Nat.mul_succ]
    _ ≤ n * n := Nat.mul_le_mul_left _ ha
  have := ev_inj (fun e => by split <;> first | exact l _ _ | omega) (fun e => by split <;> first | exact l _ _ | omega) he (n * a + b) lt
  obtain ⟨p1, p2⟩ := (place_iff (n := n) (a := a) (b := b) (e := n * a + b) hbn).1 rfl
  rw [p1, p2, if_pos ha, if_pos hbn] at this
  exact this
end Go.Proofs.Ytfgoplgdhnjkdaa.Be
