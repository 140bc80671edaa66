/- What FoldBeside's walk computes is always true. -/
import Derived.Test.YtfgoplgdhnjkdaaPm
import Derived.Test.YtfgoplgdhnjkdaaPn2
import Derived.Test.YtfgoplgdhnjkdaaPn3
import Derived.Test.YtfgoplgdhnjkdaaBe13
namespace Go.Proofs.Ytfgoplgdhnjkdaa.Be
open Go.RowKit Go.Proofs.YtfgoplgdhnjkdaaW.PrintWords
set_option linter.unusedVariables false
set_option linter.unusedSectionVars false

theorem up {α : Type} {f : Nat → Option α} (h : ∀ k, LeO (f k) (f (k + 1))) {a b : Nat} (hab : a ≤ b) {r : α} (hr : f a = some r) : f b = some r := by
  induction hab with
  | refl => exact hr
  | step _ ih => exact h _ _ ih
theorem w64 {x : Int} (h : -1000000 ≤ x ∧ x ≤ 1000000) : wrap64 x = x := by unfold wrap64; omega

theorem tot_ite {α : Type} {c : Prop} [Decidable c] {a b : Option α} (ha : ∃ e, a = some e) (hb : ∃ e, b = some e) : ∃ e, (if c then a else b) = some e := by split <;> assumption
theorem tot_bind {α β : Type} {a : Option α} {g : α → Option β} (ha : ∃ e, a = some e) (hg : ∀ e, ∃ r, g e = some r) : ∃ r, a.bind g = some r := by
  obtain ⟨e, rfl⟩ := ha
  exact hg e
theorem check4 (k : Nat) (b : Bool) (kd W H tn sh : Int) : ∃ e, topo_Check.j4 (k + 1) b kd W H tn sh = some e := by
  rw [topo_Check.j4, topo_turned.f]
  repeat' first | exact ⟨_, rfl⟩ | refine tot_ite ?_ ?_ | refine tot_bind ?_ fun _ => ?_
theorem check3 (k : Nat) (b : Bool) (kd W H tn sh : Int) : ∃ e, topo_Check.j3 (k + 2) b kd W H tn sh = some e := by
  rw [topo_Check.j3]
  repeat' first | exact ⟨_, rfl⟩ | exact check4 _ _ _ _ _ _ _ | refine tot_ite ?_ ?_
theorem check2 (k : Nat) (b : Bool) (kd W H tn sh : Int) : ∃ e, topo_Check.j2 (k + 3) b kd W H tn sh = some e := by
  rw [topo_Check.j2]
  repeat' first | exact check3 _ _ _ _ _ _ _ | refine tot_ite ?_ ?_
theorem check1 (k : Nat) (b : Bool) (kd W H tn sh : Int) : ∃ e, topo_Check.j1 (k + 4) b kd W H tn sh = some e := by
  rw [topo_Check.j1]
  repeat' first | exact ⟨_, rfl⟩ | exact check2 _ _ _ _ _ _ _ | refine tot_ite ?_ ?_
theorem check0 (k : Nat) (b : Bool) (kd W H tn sh : Int) : ∃ e, topo_Check.j0 (k + 5) b kd W H tn sh = some e := by
  rw [topo_Check.j0]
  repeat' first | exact ⟨_, rfl⟩ | exact check1 _ _ _ _ _ _ _ | refine tot_ite ?_ ?_
theorem check_total (kd W H tn sh : Int) : ∃ e, topo_Check.f 8 kd W H tn sh = some e := by
  rw [topo_Check.f]
  refine tot_ite (check0 3 _ _ _ _ _ _) (check0 3 _ _ _ _ _ _)

section
variable {kd W H tn sh : Int} (hc : topo_Check.f 8 kd W H tn sh = some 0) (hW : 1 ≤ W ∧ W ≤ 6) (hH : 1 ≤ H ∧ H ≤ 6)
include hc
theorem check_up {K : Nat} (hK : 8 ≤ K) : topo_Check.f K kd W H tn sh = some 0 := up (f := fun k => topo_Check.f k kd W H tn sh) (fun k => topo_Check.mono _ _ _ _ _ k) hK hc
include hW hH
theorem home_at {K : Nat} (hK : 8 ≤ K) : topo_Home.f K kd W H tn sh = some (-(W / 2), -(H / 2), W, H, 0) := by
  rw [topo_Home.f, check_up hc hK, Option.bind_some, if_pos rfl, Int.tdiv_eq_ediv_of_nonneg (by omega), Int.tdiv_eq_ediv_of_nonneg (by omega)]
  rw [w64 (x := W / 2) (by omega), w64 (x := H / 2) (by omega), w64 (by omega), w64 (by omega)]
theorem near_at {px py : Int} (hx : -100 ≤ px ∧ px ≤ 100) (hy : -100 ≤ py ∧ py ≤ 100) : fold_near.f px py = some true := by
  unfold fold_near.f
  have h1 : mx px py ≤ 1099511627776 := by unfold mx; split <;> omega
  have h2 : mn px py ≥ -1099511627776 := by unfold mn; split <;> omega
  rw [if_pos h1, decide_eq_true h2]
theorem of_at {px py : Int} (hx : -100 ≤ px ∧ px ≤ 100) (hy : -100 ≤ py ∧ py ≤ 100) {K : Nat} (hK : 12 ≤ K) :
    fold_of.f K kd W H tn sh [⟨px, py⟩] = some (kd, W, H, tn, sh, -(W / 2), -(H / 2), 0) := by
  obtain ⟨k, rfl⟩ : ∃ k, K = k + 1 + 1 := ⟨K - 2, by omega⟩
  rw [fold_of.f, check_up hc (by omega), Option.bind_some, if_pos rfl, fold_of.l0, if_pos (by simp), if_pos (by omega), if_pos (by simp)]
  rw [show (rd_T33 [⟨px, py⟩] 0).f0 = px from rfl, show (rd_T33 [⟨px, py⟩] 0).f1 = py from rfl, near_at hc hW hH hx hy, Option.bind_some, if_pos rfl]
  rw [show wrap64 (0 + 1) = 1 from w64 (by omega), fold_of.l0, if_neg (by simp), home_at hc hW hH (by omega), Option.bind_some]
end

section
variable {kd W H tn sh u v x y : Int} {ok : Bool} {f : Nat} (hc : topo_Check.f 8 kd W H tn sh = some 0) (hW : 1 ≤ W ∧ W ≤ 6) (hH : 1 ≤ H ∧ H ≤ 6) (hu : -1 ≤ u ∧ u ≤ W) (hv : -1 ≤ v ∧ v ≤ H) (hf : fold_way.f kd = some f) (hd : fold_dyn.f 10 f kd W H tn sh (-(W / 2)) (-(H / 2)) u v = some (x, y, ok))
include hc hW hH hu hv hf hd
theorem dyn_up {K : Nat} (hK : 10 ≤ K) : fold_dyn.f K f kd W H tn sh (-(W / 2)) (-(H / 2)) u v = some (x, y, ok) := up (f := fun k => fold_dyn.f k f kd W H tn sh (-(W / 2)) (-(H / 2)) u v) (fun k => fold_dyn.mono _ _ _ _ _ _ _ _ _ _ k) hK hd
theorem place_at : fold_grid_place.f kd W H tn sh (-(W / 2)) (-(H / 2)) x y = some (wrap64 (x + -(W / 2)), wrap64 (y + -(H / 2))) := by
  rw [fold_grid_place.f, if_pos (by omega), if_pos (by omega)]
theorem hm_at : fold_grid_home.f kd W H tn sh (-(W / 2)) (-(H / 2)) (-(W / 2) + u) (-(H / 2) + v) = some (u, v) := by
  rw [fold_grid_home.f, if_pos (by omega), if_pos (by omega), w64 (by omega), w64 (by omega)]
  congr 2 <;> omega
theorem ring_at {K : Nat} (hK : 20 ≤ K) : fold_Ring.f K kd W H tn sh (-(W / 2) + u) (-(H / 2) + v) = some (if ok = true then (wrap64 (x + -(W / 2)), wrap64 (y + -(H / 2)), true, 0) else (0, 0, false, 0)) := by
  obtain ⟨k, rfl⟩ : ∃ k, K = k + 1 := ⟨K - 1, by omega⟩
  rw [fold_Ring.f, of_at hc hW hH (by omega) (by omega) (by omega), Option.bind_some]
  dsimp only
  rw [if_pos rfl, hm_at hc hW hH hu hv hf hd, Option.bind_some]
  dsimp only
  rw [if_pos (by omega), if_neg (by omega), if_neg (by omega), if_pos (by omega), if_neg (by omega), decide_eq_false (by omega), fold_Ring.j0, if_neg (by decide), hf, Option.bind_some, dyn_up hc hW hH hu hv hf hd (by omega), Option.bind_some]
  dsimp only
  cases ok
  · rw [if_neg (by decide), if_neg (by decide)]
  · rw [if_pos rfl, if_pos rfl, place_at hc hW hH hu hv hf hd, Option.bind_some]
theorem cell_glued (hg : kd = 2 ∨ kd = 3 ∨ kd = 4) {K : Nat} (hK : 20 ≤ K) : fold_Cell.f K kd W H tn sh (-(W / 2) + u) (-(H / 2) + v) = some (wrap64 (x + -(W / 2)), wrap64 (y + -(H / 2)), 0) := by
  obtain ⟨k, rfl⟩ : ∃ k, K = k + 1 := ⟨K - 1, by omega⟩
  rw [fold_Cell.f, of_at hc hW hH (by omega) (by omega) (by omega), Option.bind_some]
  dsimp only
  have h1 : fold_grid_glued.f kd W H tn sh (-(W / 2)) (-(H / 2)) = some true := by
    rcases hg with rfl | rfl | rfl <;> rfl
  rw [if_pos rfl, fold_grid_cell.f, hm_at hc hW hH hu hv hf hd, Option.bind_some, h1, Option.bind_some, if_pos rfl, fold_grid_cell.j0, if_neg (by decide), hf, Option.bind_some, dyn_up hc hW hH hu hv hf hd (by omega), Option.bind_some]
  dsimp only
  rw [place_at hc hW hH hu hv hf hd, Option.bind_some, Option.bind_some]
theorem on_total (a b : Int) : ∃ t, fold_on.f a b = some t := by
  unfold fold_on.f
  repeat' split
  all_goals exact ⟨_, rfl⟩
theorem cell_some {K : Nat} (hK : 20 ≤ K) : ∃ r, fold_Cell.f K kd W H tn sh (-(W / 2) + u) (-(H / 2) + v) = some r := by
  obtain ⟨k, rfl⟩ : ∃ k, K = k + 1 := ⟨K - 1, by omega⟩
  rw [fold_Cell.f, of_at hc hW hH (by omega) (by omega) (by omega), Option.bind_some]
  dsimp only
  have hj : ∀ b, ∃ r, fold_grid_cell.j0 (k + 1) u v b kd W H tn sh (-(W / 2)) (-(H / 2)) = some r := by
    intro b
    rw [fold_grid_cell.j0]
    cases b
    · rw [if_neg (by decide), hf, Option.bind_some, dyn_up hc hW hH hu hv hf hd (by omega), Option.bind_some]
      dsimp only
      rw [place_at hc hW hH hu hv hf hd, Option.bind_some]
      exact ⟨_, rfl⟩
    · rw [if_pos rfl]
      exact ⟨_, rfl⟩
  have hcell : ∃ r, fold_grid_cell.f (k + 1) kd W H tn sh (-(W / 2)) (-(H / 2)) (-(W / 2) + u) (-(H / 2) + v) = some r := by
    rw [fold_grid_cell.f, hm_at hc hW hH hu hv hf hd, Option.bind_some]
    dsimp only
    have hg : ∃ g, fold_grid_glued.f kd W H tn sh (-(W / 2)) (-(H / 2)) = some g := by
      unfold fold_grid_glued.f
      split <;> exact ⟨_, rfl⟩
    obtain ⟨g, hg⟩ := hg
    rw [hg, Option.bind_some]
    obtain ⟨t1, ht1⟩ := on_total hc hW hH hu hv hf hd u W
    obtain ⟨t2, ht2⟩ := on_total hc hW hH hu hv hf hd v H
    split
    · exact hj _
    · rw [ht1, Option.bind_some]
      split
      · rw [ht2, Option.bind_some]
        exact hj _
      · exact hj _
  obtain ⟨r, hr⟩ := hcell
  rw [if_pos rfl, hr, Option.bind_some]
  exact ⟨_, rfl⟩
theorem glued_at {K : Nat} (hK : 20 ≤ K) : ∃ g, vivariumlaw06_glued.f K kd W H tn sh = some g ∧ (g = true → kd = 2 ∨ kd = 3 ∨ kd = 4) := by
  rw [vivariumlaw06_glued.f, check_up hc (by omega), Option.bind_some, if_pos rfl]
  by_cases h2 : kd = 2
  · rw [if_pos h2]; exact ⟨_, rfl, fun _ => .inl h2⟩
  rw [if_neg h2]
  by_cases h3 : kd = 3
  · rw [if_pos h3]; exact ⟨_, rfl, fun _ => .inr (.inl h3)⟩
  rw [if_neg h3]
  refine ⟨_, rfl, fun h => .inr (.inr (by simpa using h))⟩
end

theorem nbr_some {kd W H tn sh u v : Int} {r : Option Nat} (h : nbr kd W H tn sh u v = some r) : ∃ f x y ok, fold_way.f kd = some f ∧ fold_dyn.f 10 f kd W H tn sh (-(W / 2)) (-(H / 2)) u v = some (x, y, ok) ∧
    ((ok = true ∧ 0 ≤ x ∧ x < W ∧ 0 ≤ y ∧ y < H ∧ r = some (x + W * y).toNat) ∨ (ok = false ∧ kd = 1 ∧ r = none)) := by
  unfold nbr at h
  cases hf : fold_way.f kd with
  | none => rw [hf] at h; cases h
  | some f =>
    rw [hf] at h
    dsimp only at h
    cases hd : fold_dyn.f 10 f kd W H tn sh (-(W / 2)) (-(H / 2)) u v with
    | none => rw [hd] at h; cases h
    | some p =>
      obtain ⟨x, y, ok⟩ := p
      rw [hd] at h
      dsimp only at h
      refine ⟨f, x, y, ok, rfl, hd, ?_⟩
      cases ok with
      | true =>
        rw [if_pos rfl] at h
        split at h
        · rename_i hx
          exact .inl ⟨rfl, hx.1, hx.2.1, hx.2.2.1, hx.2.2.2, (Option.some.inj h).symm⟩
        · cases h
      | false =>
        rw [if_neg (by decide)] at h
        split at h
        · rename_i hk
          exact .inr ⟨rfl, hk, (Option.some.inj h).symm⟩
        · cases h
theorem cellno {W H x y : Int} (hx : 0 ≤ x ∧ x < W) (hy : 0 ≤ y ∧ y < H) : 0 ≤ x + W * y ∧ x + W * y < W * H := by
  have h1 : 0 ≤ W * y := Int.mul_nonneg (by omega) hy.1
  have h2 : W * y ≤ W * (H - 1) := Int.mul_le_mul_of_nonneg_left (by omega) (by omega)
  rw [Int.mul_sub] at h2
  omega
theorem nb_lt {kd W H tn sh : Int} {n a d b : Nat} (hn : (n : Int) = W * H) (h : nb kd W H tn sh a d = some (some b)) : b < n := by
  obtain ⟨f, x, y, ok, _, _, h | h⟩ := nbr_some h
  · obtain ⟨_, h1, h2, h3, h4, h5⟩ := h
    have := cellno ⟨h1, h2⟩ ⟨h3, h4⟩
    have h6 := Option.some.inj h5
    omega
  · cases h.2.2

/-- The table of counts, told. -/
def Rel (n : Nat) (x7 : List Int) (c : Nat → Nat → Nat) : Prop := x7.length = n * n ∧ ∀ a b, a < n → b < n → x7.getD (n * a + b) 0 = (c a b : Int)
theorem Rel.congr {n : Nat} {x7 : List Int} {c c' : Nat → Nat → Nat} (h : Rel n x7 c) (hc : ∀ a b, a < n → b < n → c a b = c' a b) : Rel n x7 c' := ⟨h.1, fun a b ha hb => by rw [h.2 a b ha hb, hc a b ha hb]⟩
theorem place_lt {n a b : Nat} (ha : a < n) (hb : b < n) : n * a + b < n * n := calc n * a + b < n * a + n := by omega
  _ = n * (a + 1) := by rw [Nat.mul_succ]
  _ ≤ n * n := Nat.mul_le_mul_left _ ha
theorem Rel.set {n : Nat} {x7 : List Int} {c : Nat → Nat → Nat} (h : Rel n x7 c) {a b : Nat} (ha : a < n) (hb : b < n) : Rel n (x7.set (n * a + b) ((c a b : Int) + 1)) (fun a' b' => c a' b' + if a' = a ∧ b' = b then 1 else 0) := by
  refine ⟨by rw [List.length_set]; exact h.1, fun a' b' ha' hb' => ?_⟩
  have hl := place_lt ha' hb'
  rw [List.getD_eq_getElem?_getD, List.getElem?_set]
  by_cases he : n * a + b = n * a' + b'
  · have p1 := (place_iff (n := n) (a := a) (b := b) (e := n * a + b) hb).1 rfl
    have p2 := (place_iff (n := n) (a := a') (b := b') (e := n * a + b) hb').1 he
    have q1 : a' = a := by omega
    have q2 : b' = b := by omega
    rw [if_pos he, if_pos (by rw [h.1]; omega), q1, q2]
    simp
  · rw [if_neg he, ← List.getD_eq_getElem?_getD, h.2 a' b' ha' hb']
    show ((c a' b' : Nat) : Int) = ((c a' b' + if a' = a ∧ b' = b then 1 else 0 : Nat) : Int)
    rw [if_neg (by rintro ⟨rfl, rfl⟩; exact he rfl)]
    rfl

def cc (g : Nat → Nat → Option (Option Nat)) (i d a b : Nat) : Nat := if a < i then ct (g a) b 9 else if a = i then ct (g a) b d else 0
theorem cc_le (g : Nat → Nat → Option (Option Nat)) (i d a b : Nat) (hd : d ≤ 9) : cc g i d a b ≤ 9 := by
  unfold cc
  have h1 := ct_le (g a) b 9
  have h2 := ct_le (g a) b d
  split
  · exact h1
  · split <;> omega
theorem cc_next (g : Nat → Nat → Option (Option Nat)) (i a b : Nat) : cc g i 9 a b = cc g (i + 1) 0 a b := by
  unfold cc
  by_cases h1 : a < i
  · rw [if_pos h1, if_pos (by omega)]
  · by_cases h2 : a = i
    · rw [if_neg h1, if_pos h2, if_pos (by omega)]
    · rw [if_neg h1, if_neg h2, if_neg (by omega)]
      split
      · rfl
      · rfl

theorem arith1 {h m t : Int} (h1 : -3 ≤ h ∧ h ≤ 0) (h2 : 0 ≤ m ∧ m ≤ 6) (h3 : 0 ≤ t ∧ t ≤ 2) : wrap64 (wrap64 (h + m + t) - 1) = h + (m + t - 1) := by
  rw [w64 (x := h + m + t) (by omega), w64 (by omega)]
  omega
theorem arith2 {n a b : Nat} (hn : n ≤ 36) (ha : a < n) (hb : b < n) : wrap64 (wrap64 ((n : Int) * a) + (b : Int)) = ((n * a + b : Nat) : Int) := by
  have h1 : n * a ≤ 36 * 36 := Nat.mul_le_mul hn (by omega)
  have h2 : ((n : Int) * a) = ((n * a : Nat) : Int) := by simp
  rw [h2, w64 (x := ((n * a : Nat) : Int)) (by omega), w64 (by omega)]
  simp
theorem arith3 {W H x y hx hy : Int} {n b : Nat} (hn36 : n ≤ 36) (hn : (n : Int) = W * H) (x0 : 0 ≤ x ∧ x < W) (y0 : 0 ≤ y ∧ y < H) (hb : b = (x + W * y).toNat) (h1 : -3 ≤ hx ∧ hx ≤ 0) (h2 : -3 ≤ hy ∧ hy ≤ 0) (hW : W ≤ 6) (hH : H ≤ 6) :
    wrap64 (wrap64 (x + hx - hx) + wrap64 (W * wrap64 (y + hy - hy))) = (b : Int) ∧ b < n := by
  have hno := cellno x0 y0
  rw [show x + hx - hx = x by omega, show y + hy - hy = y by omega, w64 (x := x) (by omega), w64 (x := y) (by omega)]
  have h3 : 0 ≤ W * y := Int.mul_nonneg (by omega) y0.1
  rw [w64 (x := W * y) (by omega), w64 (by omega)]
  omega
theorem half {W : Int} (h : 1 ≤ W ∧ W ≤ 6) : -3 ≤ -(W / 2) ∧ -(W / 2) ≤ 0 := by omega

section
variable {k n a d : Nat} {x7 : List Int} {kd W H tn sh hx hy ox oy qx qy : Int} {b : Nat} {c : Bool}
theorem j6_at (c1 : ¬ qx < hx) (c2 : ¬ qx ≥ wrap64 (hx + W)) (c3 : wrap64 (wrap64 (qx - hx) + wrap64 (W * wrap64 (qy - hy))) = (b : Int)) (hb : b < n) :
    vivariumlaw06_FoldBeside.j6 (k + 22) n x7 a d true false kd W H tn sh hx hy W H ox oy qx qy = vivariumlaw06_FoldBeside.j7 (k + 21) n x7 a d true b false kd W H tn sh hx hy W H ox oy := by
  rw [vivariumlaw06_FoldBeside.j6, if_neg (by decide), if_pos rfl, if_neg c1, if_neg c2, c3, if_neg (by omega), decide_eq_false (by omega)]
theorem j7_four (hd : wrap64 (((4 : Nat) : Int) + 1) = ((4 + 1 : Nat) : Int)) : vivariumlaw06_FoldBeside.j7 (k + 21) n x7 a ((4 : Nat) : Int) true b false kd W H tn sh hx hy W H ox oy = vivariumlaw06_FoldBeside.l1 (k + 20) n x7 a ((4 + 1 : Nat) : Int) kd W H tn sh hx hy W H ox oy := by
  rw [vivariumlaw06_FoldBeside.j7, if_neg (by decide), if_pos rfl, if_pos (show ((4 : Nat) : Int) = 4 from rfl), hd]
theorem j7_set {e : Nat} {z : Int} (h4 : ¬ d = 4) (i4 : wrap64 (wrap64 ((n : Int) * a) + (b : Int)) = (e : Int)) (he : e < x7.length) (i5 : wrap64 (rd x7 (e : Int) + 1) = z) (hd : wrap64 ((d : Int) + 1) = ((d + 1 : Nat) : Int)) :
    vivariumlaw06_FoldBeside.j7 (k + 21) n x7 a d true b false kd W H tn sh hx hy W H ox oy = vivariumlaw06_FoldBeside.l1 (k + 20) n (x7.set e z) a ((d + 1 : Nat) : Int) kd W H tn sh hx hy W H ox oy := by
  rw [vivariumlaw06_FoldBeside.j7, if_neg (by decide), if_pos rfl, if_neg (by omega), i4, if_pos (by omega), if_pos (by omega), i5, hd]
  rfl
theorem l1_at {u v rx ry : Int} {ok : Bool} (hd : d < 9) (e1 : wrap64 (wrap64 (ox + Int.tmod (d : Int) 3) - 1) = u) (e2 : wrap64 (wrap64 (oy + wrap64 (Int.tdiv (d : Int) 3)) - 1) = v)
    (hr : fold_Ring.f (k + 23) kd W H tn sh u v = some (rx, ry, ok, 0)) (hk : ok = false → kd = 1) :
    vivariumlaw06_FoldBeside.l1 (k + 24) n x7 a d kd W H tn sh hx hy W H ox oy = vivariumlaw06_FoldBeside.j5 (k + 23) n x7 a d ok false kd W H tn sh hx hy W H ox oy u v rx ry := by
  rw [vivariumlaw06_FoldBeside.l1, if_pos (by omega), e1, e2, hr, Option.bind_some]
  cases ok with
  | true => rw [if_pos rfl, if_pos rfl]
  | false =>
    obtain rfl := hk rfl
    rw [if_pos rfl]
    dsimp only
    rw [if_neg (by decide)]
    rfl
theorem j5_at {u v rx ry : Int} {ok : Bool} {g : Bool} {rc : Int × Int × Int} (hg : vivariumlaw06_glued.f (k + 22) kd W H tn sh = some g) (hc : fold_Cell.f (k + 22) kd W H tn sh u v = some rc) (hgc : g = true → rc = (rx, ry, 0)) :
    vivariumlaw06_FoldBeside.j5 (k + 23) n x7 a d ok false kd W H tn sh hx hy W H ox oy u v rx ry = vivariumlaw06_FoldBeside.j6 (k + 22) n x7 a d ok false kd W H tn sh hx hy W H ox oy rx ry := by
  rw [vivariumlaw06_FoldBeside.j5, if_neg (by decide), hc, Option.bind_some, hg, Option.bind_some]
  cases g with
  | false => rw [if_neg (by decide)]
  | true =>
    obtain rfl := hgc rfl
    rw [if_pos rfl, if_pos rfl]
    simp
theorem j67_none (hd : wrap64 ((d : Int) + 1) = ((d + 1 : Nat) : Int)) : vivariumlaw06_FoldBeside.j6 (k + 22) n x7 a d false false kd W H tn sh hx hy W H ox oy qx qy = vivariumlaw06_FoldBeside.l1 (k + 20) n x7 a ((d + 1 : Nat) : Int) kd W H tn sh hx hy W H ox oy := by
  rw [vivariumlaw06_FoldBeside.j6, if_neg (by decide), if_neg (by decide), vivariumlaw06_FoldBeside.j7, if_neg (by decide), if_neg (by decide), hd]
end

theorem own_xy {W x y : Int} {a : Nat} (hW : 1 ≤ W) (x0 : 0 ≤ x ∧ x < W) (y0 : 0 ≤ y) (h : a = (x + W * y).toNat) : x = (a : Int) % W ∧ y = (a : Int) / W := by
  have h1 : 0 ≤ W * y := Int.mul_nonneg (by omega) y0
  have hxa : (a : Int) = x + W * y := by omega
  rw [hxa]
  constructor
  · rw [Int.add_mul_emod_self_left, Int.emod_eq_of_lt x0.1 x0.2]
  · rw [Int.add_mul_ediv_left _ _ (by omega), Int.ediv_eq_zero_of_lt x0.1 x0.2]
    omega
section
variable {k n a : Nat} {x7 : List Int} {kd W H tn sh hx hy ox oy : Int}
theorem l0_at (ha : a < n) (hW0 : ¬ W = 0) (e1 : wrap64 (hx + Int.tmod (a : Int) W) = ox) (e2 : wrap64 (hy + wrap64 (Int.tdiv (a : Int) W)) = oy) (hr : fold_Ring.f (k + 59) kd W H tn sh ox oy = some (ox, oy, true, 0)) :
    vivariumlaw06_FoldBeside.l0 (k + 60) n x7 a kd W H tn sh hx hy W H = vivariumlaw06_FoldBeside.l1 (k + 58) n x7 a ((0 : Nat) : Int) kd W H tn sh hx hy W H ox oy := by
  rw [vivariumlaw06_FoldBeside.l0, if_pos (by omega), if_neg hW0, e1, e2, hr, Option.bind_some]
  dsimp only
  rw [if_pos rfl, if_pos rfl, show (!ox == ox || !oy == oy) = false by simp, vivariumlaw06_FoldBeside.j3, if_neg (by decide)]
  rfl
theorem l1_end (e3 : wrap64 ((a : Int) + 1) = ((a + 1 : Nat) : Int)) : vivariumlaw06_FoldBeside.l1 (k + 22) n x7 a ((9 : Nat) : Int) kd W H tn sh hx hy W H ox oy = vivariumlaw06_FoldBeside.l0 (k + 21) n x7 ((a + 1 : Nat) : Int) kd W H tn sh hx hy W H := by
  rw [vivariumlaw06_FoldBeside.l1, if_neg (by omega), e3]
end

theorem cc_same {g : Nat → Nat → Option (Option Nat)} {a d : Nat} (h : ∀ b, ¬ (d ≠ 4 ∧ g a d = some (some b))) (a' b' : Nat) : cc g a d a' b' = cc g a (d + 1) a' b' := by
  unfold cc
  by_cases p2 : a' = a
  · subst p2
    have e : ct (g a') b' (d + 1) = ct (g a') b' d := by rw [ct, if_neg (h b')]; rfl
    rw [e]
  · by_cases p1 : a' < a
    · rw [if_pos p1, if_pos p1]
    · rw [if_neg p1, if_neg p1, if_neg p2, if_neg p2]
theorem cc_more {g : Nat → Nat → Option (Option Nat)} {a d b : Nat} (h4 : ¬ d = 4) (hr : g a d = some (some b)) (a' b' : Nat) : cc g a d a' b' + (if a' = a ∧ b' = b then 1 else 0) = cc g a (d + 1) a' b' := by
  unfold cc
  by_cases p1 : a' < a
  · rw [if_pos p1, if_pos p1, if_neg (by omega)]
    rfl
  · by_cases p2 : a' = a
    · subst p2
      rw [if_neg p1, if_neg p1, if_pos rfl, if_pos rfl, ct]
      congr 1
      by_cases p3 : b' = b
      · subst p3
        rw [if_pos ⟨rfl, rfl⟩, if_pos ⟨h4, hr⟩]
      · rw [if_neg (fun h => p3 h.2), if_neg]
        rintro ⟨_, h⟩
        rw [hr] at h
        exact p3 (Option.some.inj (Option.some.inj h)).symm
    · rw [if_neg p1, if_neg p1, if_neg p2, if_neg p2, if_neg (fun h => p2 h.1)]

section
variable {kd W H tn sh : Int} (hc : topo_Check.f 8 kd W H tn sh = some 0) (hW : 1 ≤ W ∧ W ≤ 6) (hH : 1 ≤ H ∧ H ≤ 6) {n : Nat} (hn : (n : Int) = W * H)
include hW hH hn
theorem n_le : n ≤ 36 := by
  have : W * H ≤ 6 * H := Int.mul_le_mul_of_nonneg_right hW.2 (by omega)
  omega
theorem at_cell {a : Nat} (ha : a < n) : (0 ≤ (a : Int) % W ∧ (a : Int) % W < W) ∧ 0 ≤ (a : Int) / W ∧ (a : Int) / W < H := by
  refine ⟨⟨Int.emod_nonneg _ (by omega), Int.emod_lt_of_pos _ (by omega)⟩, Int.ediv_nonneg (by omega) (by omega), Int.ediv_lt_of_lt_mul (by omega) ?_⟩
  rw [Int.mul_comm, ← hn]
  omega
include hc
/-- One place beside a cell. -/
theorem step {a d : Nat} (ha : a < n) (hd : d < 9) {r : Option Nat} (hr : nb kd W H tn sh a d = some r) {x7 : List Int} (hx : Rel n x7 (cc (nb kd W H tn sh) a d)) :
    ∃ x7', Rel n x7' (cc (nb kd W H tn sh) a (d + 1)) ∧ ∀ k, vivariumlaw06_FoldBeside.l1 (k + 24) n x7 a d kd W H tn sh (-(W / 2)) (-(H / 2)) W H (-(W / 2) + (a : Int) % W) (-(H / 2) + (a : Int) / W) = vivariumlaw06_FoldBeside.l1 (k + 20) n x7' a ((d + 1 : Nat) : Int) kd W H tn sh (-(W / 2)) (-(H / 2)) W H (-(W / 2) + (a : Int) % W) (-(H / 2) + (a : Int) / W) := by
  obtain ⟨c1, c2⟩ := at_cell hW hH hn ha
  have hn36 := n_le hW hH hn
  obtain ⟨f, x, y, ok, hf, hdy, hcase⟩ := nbr_some hr
  have hd3 : (0 : Int) ≤ (d : Int) % 3 ∧ (d : Int) % 3 ≤ 2 := by clear hr hx hdy hcase; omega
  have hq3 : (0 : Int) ≤ (d : Int) / 3 ∧ (d : Int) / 3 ≤ 2 := by clear hr hx hdy hcase; omega
  have e1 : wrap64 (wrap64 (-(W / 2) + (a : Int) % W + Int.tmod (d : Int) 3) - 1) = -(W / 2) + ((a : Int) % W + (d : Int) % 3 - 1) := by
    rw [Int.tmod_eq_emod_of_nonneg (Int.natCast_nonneg d)]
    exact arith1 (half hW) ⟨c1.1, Int.le_trans (Int.le_of_lt c1.2) hW.2⟩ hd3
  have e2 : wrap64 (wrap64 (-(H / 2) + (a : Int) / W + wrap64 (Int.tdiv (d : Int) 3)) - 1) = -(H / 2) + ((a : Int) / W + (d : Int) / 3 - 1) := by
    rw [Int.tdiv_eq_ediv_of_nonneg (Int.natCast_nonneg d), w64 (x := (d : Int) / 3) ⟨Int.le_trans (by decide) hq3.1, Int.le_trans hq3.2 (by decide)⟩]
    exact arith1 (half hH) ⟨c2.1, Int.le_trans (Int.le_of_lt c2.2) hH.2⟩ hq3
  have hub : -1 ≤ (a : Int) % W + (d : Int) % 3 - 1 ∧ (a : Int) % W + (d : Int) % 3 - 1 ≤ W := by clear hr hx hdy hcase e1 e2; omega
  have hvb : -1 ≤ (a : Int) / W + (d : Int) / 3 - 1 ∧ (a : Int) / W + (d : Int) / 3 - 1 ≤ H := by clear hr hx hdy hcase e1 e2; omega
  have e3 : wrap64 ((d : Int) + 1) = ((d + 1 : Nat) : Int) := by clear hr hx hdy hcase e1 e2 hub hvb c1 c2; rw [w64 (by omega)]; rfl
  generalize (a : Int) % W + (d : Int) % 3 - 1 = u at *
  generalize (a : Int) / W + (d : Int) / 3 - 1 = v at *
  have ring := fun (k : Nat) => ring_at hc hW hH hub hvb hf hdy (K := k + 23) (Nat.le_trans (by decide) (Nat.le_add_left 23 k))
  have cell := fun (k : Nat) => cell_some hc hW hH hub hvb hf hdy (K := k + 22) (Nat.le_trans (by decide) (Nat.le_add_left 22 k))
  have gl := fun (k : Nat) => glued_at hc hW hH hub hvb hf hdy (K := k + 22) (Nat.le_trans (by decide) (Nat.le_add_left 22 k))
  rcases hcase with ⟨rfl, x0, x1, y0, y1, rfl⟩ | ⟨rfl, hk1, rfl⟩
  · obtain ⟨b, hb⟩ : ∃ b, b = (x + W * y).toNat := ⟨_, rfl⟩
    obtain ⟨i3, hbn⟩ := arith3 hn36 hn ⟨x0, x1⟩ ⟨y0, y1⟩ hb (half hW) (half hH) hW.2 hH.2
    rw [← hb] at hr
    have hw1 := half hW
    have hh1 := half hH
    have i1 : wrap64 (x + -(W / 2)) = x + -(W / 2) := w64 ⟨by omega, by omega⟩
    have i2 : wrap64 (y + -(H / 2)) = y + -(H / 2) := w64 ⟨by omega, by omega⟩
    have walk : ∀ k, vivariumlaw06_FoldBeside.l1 (k + 24) n x7 a d kd W H tn sh (-(W / 2)) (-(H / 2)) W H (-(W / 2) + (a : Int) % W) (-(H / 2) + (a : Int) / W) =
        vivariumlaw06_FoldBeside.j7 (k + 21) n x7 a d true b false kd W H tn sh (-(W / 2)) (-(H / 2)) W H (-(W / 2) + (a : Int) % W) (-(H / 2) + (a : Int) / W) := by
      intro k
      have hrk := ring k
      rw [if_pos rfl] at hrk
      obtain ⟨g, hg, hg2⟩ := gl k
      obtain ⟨rc, hrc⟩ := cell k
      rw [l1_at hd e1 e2 hrk (fun h => by cases h), j5_at hg hrc (fun h => by
        have := cell_glued hc hW hH hub hvb hf hdy (hg2 h) (K := k + 22) (Nat.le_trans (by decide) (Nat.le_add_left 22 k))
        rw [hrc] at this
        exact Option.some.inj this), i1, i2]
      refine j6_at (by omega) ?_ i3 hbn
      rw [w64 (x := -(W / 2) + W) ⟨by omega, by omega⟩]
      omega
    by_cases h4 : d = 4
    · subst h4
      exact ⟨x7, hx.congr fun a' b' _ _ => cc_same (fun b h => h.1 rfl) a' b', fun k => (walk k).trans (j7_four e3)⟩
    · have hlt := place_lt ha hbn
      have i5 : wrap64 (rd x7 ((n * a + b : Nat) : Int) + 1) = ((cc (nb kd W H tn sh) a d a b : Nat) : Int) + 1 := by
        have h1 : rd x7 ((n * a + b : Nat) : Int) = ((cc (nb kd W H tn sh) a d a b : Nat) : Int) := hx.2 a b ha hbn
        have h2 := cc_le (nb kd W H tn sh) a d a b (Nat.le_of_lt hd)
        rw [h1]
        generalize cc (nb kd W H tn sh) a d a b = z at h2
        exact w64 ⟨by omega, by omega⟩
      exact ⟨_, (hx.set ha hbn).congr fun a' b' _ _ => cc_more h4 hr a' b', fun k => (walk k).trans (j7_set h4 (arith2 hn36 ha hbn) (by rw [hx.1]; exact hlt) i5 e3)⟩
  · refine ⟨x7, hx.congr fun a' b' _ _ => cc_same (fun b h => by rw [hr] at h; cases h.2) a' b', fun k => ?_⟩
    have hrk := ring k
    rw [if_neg (by decide)] at hrk
    obtain ⟨g, hg, hg2⟩ := gl k
    obtain ⟨rc, hrc⟩ := cell k
    rw [l1_at hd e1 e2 hrk (fun _ => hk1), j5_at hg hrc (fun h => by have := hg2 h; omega)]
    exact j67_none e3

theorem steps {a : Nat} (ha : a < n) (hg : ∀ d, d < 9 → ∃ r, nb kd W H tn sh a d = some r) : ∀ (m d : Nat), d + m = 9 → ∀ x7, Rel n x7 (cc (nb kd W H tn sh) a d) →
    ∃ x7', Rel n x7' (cc (nb kd W H tn sh) a 9) ∧ ∀ k, vivariumlaw06_FoldBeside.l1 (k + 20 + 4 * m) n x7 a d kd W H tn sh (-(W / 2)) (-(H / 2)) W H (-(W / 2) + (a : Int) % W) (-(H / 2) + (a : Int) / W) = vivariumlaw06_FoldBeside.l1 (k + 20) n x7' a ((9 : Nat) : Int) kd W H tn sh (-(W / 2)) (-(H / 2)) W H (-(W / 2) + (a : Int) % W) (-(H / 2) + (a : Int) / W) := by
  intro m
  induction m with
  | zero =>
    intro d hd x7 hx
    obtain rfl : d = 9 := by omega
    exact ⟨x7, hx, fun k => rfl⟩
  | succ m ih =>
    intro d hd x7 hx
    obtain ⟨r, hr⟩ := hg d (by omega)
    obtain ⟨y, hy, h1⟩ := step hc hW hH hn ha (by omega) hr hx
    obtain ⟨z, hz, h2⟩ := ih (d + 1) (by omega) y hy
    refine ⟨z, hz, fun k => ?_⟩
    rw [← h2 k, show k + 20 + 4 * (m + 1) = (k + 4 * m) + 24 by omega, h1 (k + 4 * m), show k + 4 * m + 20 = k + 20 + 4 * m by omega]

/-- One cell. -/
theorem cell_step {a : Nat} (ha : a < n) (hg : ∀ d, d < 9 → ∃ r, nb kd W H tn sh a d = some r) (ho : nb kd W H tn sh a 4 = some (some a)) {x7 : List Int} (hx : Rel n x7 (cc (nb kd W H tn sh) a 0)) :
    ∃ x7', Rel n x7' (cc (nb kd W H tn sh) (a + 1) 0) ∧ ∀ k, vivariumlaw06_FoldBeside.l0 (k + 60) n x7 a kd W H tn sh (-(W / 2)) (-(H / 2)) W H = vivariumlaw06_FoldBeside.l0 (k + 21) n x7' ((a + 1 : Nat) : Int) kd W H tn sh (-(W / 2)) (-(H / 2)) W H := by
  obtain ⟨c1, c2⟩ := at_cell hW hH hn ha
  have hn36 := n_le hW hH hn
  obtain ⟨y, hy, h1⟩ := steps hc hW hH hn ha hg 9 0 rfl x7 hx
  refine ⟨y, hy.congr fun a' b' _ _ => cc_next _ _ _ _, fun k => ?_⟩
  have hk := h1 (k + 2)
  clear h1 hy hg hx
  have hw1 := half hW
  have hh1 := half hH
  obtain ⟨f, x, yy, ok, hf, hdy, hcase⟩ := nbr_some ho
  have z1 : ((a : Int) % W + ((4 : Nat) : Int) % 3 - 1) = (a : Int) % W := by
    generalize (a : Int) % W = q
    clear hdy hcase hk
    omega
  have z2 : ((a : Int) / W + ((4 : Nat) : Int) / 3 - 1) = (a : Int) / W := by
    generalize (a : Int) / W = q
    clear hdy hcase hk
    omega
  rw [z1, z2] at hdy
  rcases hcase with ⟨rfl, x0, x1, y0, y1, hxy⟩ | ⟨_, _, h⟩
  rotate_left
  · cases h
  obtain ⟨q1, q2⟩ := own_xy hW.1 ⟨x0, x1⟩ y0 (Option.some.inj hxy)
  clear hxy ho
  subst q1 q2
  have hring := ring_at hc hW hH (u := (a : Int) % W) (v := (a : Int) / W) ⟨by omega, Int.le_of_lt c1.2⟩ ⟨by omega, Int.le_of_lt c2.2⟩ hf hdy (K := k + 59) (Nat.le_trans (by decide) (Nat.le_add_left 59 k))
  clear hdy z1 z2
  have e1 : wrap64 (-(W / 2) + Int.tmod (a : Int) W) = -(W / 2) + (a : Int) % W := by
    rw [Int.tmod_eq_emod_of_nonneg (Int.natCast_nonneg a)]
    exact w64 ⟨by omega, by omega⟩
  have e2 : wrap64 (-(H / 2) + wrap64 (Int.tdiv (a : Int) W)) = -(H / 2) + (a : Int) / W := by
    rw [Int.tdiv_eq_ediv_of_nonneg (Int.natCast_nonneg a), w64 (x := (a : Int) / W) ⟨by omega, by omega⟩]
    exact w64 ⟨by omega, by omega⟩
  have e3 : wrap64 ((a : Int) + 1) = ((a + 1 : Nat) : Int) := by
    clear e1 e2 hring hk c1 c2
    rw [w64 (by omega)]
    rfl
  have s1 : wrap64 ((a : Int) % W + -(W / 2)) = -(W / 2) + (a : Int) % W := by rw [Int.add_comm, w64 ⟨by omega, by omega⟩]
  have s2 : wrap64 ((a : Int) / W + -(H / 2)) = -(H / 2) + (a : Int) / W := by rw [Int.add_comm, w64 ⟨by omega, by omega⟩]
  rw [if_pos rfl, s1, s2] at hring
  rw [l0_at ha (by omega) e1 e2 hring]
  exact hk.trans (l1_end e3)

theorem cells (hg : ∀ a d, a < n → d < 9 → ∃ r, nb kd W H tn sh a d = some r) (ho : ∀ a, a < n → nb kd W H tn sh a 4 = some (some a)) : ∀ (m a : Nat), a + m = n → ∀ x7, Rel n x7 (cc (nb kd W H tn sh) a 0) →
    ∃ x7', Rel n x7' (cc (nb kd W H tn sh) n 0) ∧ ∀ k, vivariumlaw06_FoldBeside.l0 (k + 21 + 39 * m) n x7 a kd W H tn sh (-(W / 2)) (-(H / 2)) W H = vivariumlaw06_FoldBeside.l0 (k + 21) n x7' (n : Int) kd W H tn sh (-(W / 2)) (-(H / 2)) W H := by
  intro m
  induction m with
  | zero =>
    intro a ha x7 hx
    obtain rfl : a = n := by omega
    exact ⟨x7, hx, fun k => rfl⟩
  | succ m ih =>
    intro a ha x7 hx
    obtain ⟨y, hy, h1⟩ := cell_step hc hW hH hn (by omega) (fun d hd => hg a d (by omega) hd) (ho a (by omega)) hx
    obtain ⟨z, hz, h2⟩ := ih (a + 1) (by omega) y hy
    refine ⟨z, hz, fun k => ?_⟩
    rw [← h2 k, show k + 21 + 39 * (m + 1) = (k + 39 * m) + 60 by omega, h1 (k + 39 * m), show k + 39 * m + 21 = k + 21 + 39 * m by omega]
end

theorem next_at {b : Nat} (hb : b < 1000) : wrap64 ((b : Int) + 1) = ((b + 1 : Nat) : Int) := by
  rw [w64 (by omega)]
  rfl
theorem l3_at {k n a b c1 c2 : Nat} {x7 : List Int} (hb : b < n) (hn : n ≤ 36) (i1 : wrap64 (wrap64 ((n : Int) * a) + (b : Int)) = (c1 : Int)) (i2 : wrap64 (wrap64 ((n : Int) * b) + (a : Int)) = (c2 : Int)) (h1 : c1 < x7.length) (h2 : c2 < x7.length) (hr : rd x7 (c1 : Int) = rd x7 (c2 : Int)) :
    vivariumlaw06_FoldBeside.l3 (k + 1) n x7 a b = vivariumlaw06_FoldBeside.l3 k n x7 a ((b + 1 : Nat) : Int) := by
  rw [vivariumlaw06_FoldBeside.l3, if_pos (Int.ofNat_lt.2 hb), i1, if_pos (Int.natCast_nonneg _), if_pos (Int.ofNat_lt.2 h1), i2, if_pos (Int.natCast_nonneg _), if_pos (Int.ofNat_lt.2 h2), if_pos hr, next_at (Nat.lt_of_lt_of_le hb (Nat.le_trans hn (by decide)))]
theorem look3 {n : Nat} (hn : n ≤ 36) {x7 : List Int} {c : Nat → Nat → Nat} (hx : Rel n x7 c) (hs : ∀ a b, a < n → b < n → c a b = c b a) {a : Nat} (ha : a < n) : ∀ (m b : Nat), b + m = n → ∀ k,
    vivariumlaw06_FoldBeside.l3 (k + m) n x7 a b = vivariumlaw06_FoldBeside.l3 k n x7 a (n : Int) := by
  intro m
  induction m with
  | zero =>
    intro b hb k
    obtain rfl : b = n := by omega
    rfl
  | succ m ih =>
    intro b hb k
    have hbn : b < n := by omega
    have r1 : rd x7 ((n * a + b : Nat) : Int) = (c a b : Int) := hx.2 a b ha hbn
    have r2 : rd x7 ((n * b + a : Nat) : Int) = (c b a : Int) := hx.2 b a hbn ha
    rw [← ih (b + 1) (by omega) k]
    exact l3_at (k := k + m) hbn hn (arith2 hn ha hbn) (arith2 hn hbn ha) (by rw [hx.1]; exact place_lt ha hbn) (by rw [hx.1]; exact place_lt hbn ha) (by rw [r1, r2, hs a b ha hbn])
theorem look2 {n : Nat} (hn : n ≤ 36) {x7 : List Int} {c : Nat → Nat → Nat} (hx : Rel n x7 c) (hs : ∀ a b, a < n → b < n → c a b = c b a) : ∀ (m a : Nat), a + m = n → ∀ k,
    vivariumlaw06_FoldBeside.l2 (k + 1 + (n + 2) * m) n x7 a = some true := by
  intro m
  induction m with
  | zero =>
    intro a ha k
    rw [Nat.mul_zero, Nat.add_zero, vivariumlaw06_FoldBeside.l2, if_neg (by omega)]
  | succ m ih =>
    intro a ha k
    have e3 : wrap64 ((a : Int) + 1) = ((a + 1 : Nat) : Int) := by rw [w64 (by omega)]; rfl
    rw [show k + 1 + (n + 2) * (m + 1) = (k + 1 + (n + 2) * m) + 1 + n + 1 by rw [Nat.mul_succ]; omega, vivariumlaw06_FoldBeside.l2, if_pos (by omega)]
    have h3 := look3 hn hx hs (a := a) (by omega) n 0 (by omega) (k + 1 + (n + 2) * m + 1)
    refine h3.trans ?_
    rw [vivariumlaw06_FoldBeside.l3, if_neg (by omega), e3]
    exact ih (a + 1) (by omega) k

theorem awake_true : vivariumlaw06_awake.f 60 = some true := by decide +kernel
theorem awake_up {K : Nat} (hK : 60 ≤ K) : vivariumlaw06_awake.f K = some true := up (f := fun k => vivariumlaw06_awake.f k) (fun k => vivariumlaw06_awake.mono k) hK awake_true

theorem good_of {kd W H tn sh : Int} (hc : topo_Check.f 8 kd W H tn sh = some 0) (hW : 1 ≤ W ∧ W ≤ 6) (hH : 1 ≤ H ∧ H ≤ 6) (hk : 1 ≤ kd ∧ kd ≤ 5) (ht : 0 ≤ tn ∧ tn ≤ 2) (hs : -5 ≤ sh ∧ sh ≤ 5) : good kd W H tn sh = true := by
  have hg : goodw kd := by
    rcases (by omega : kd = 1 ∨ kd = 2 ∨ kd = 3 ∨ kd = 4 ∨ kd = 5) with rfl | rfl | rfl | rfl | rfl
    · exact good1
    · exact good2
    · exact good3
    · exact good4
    · exact good5
  have h1 := hg W.toNat (by omega) (by omega)
  unfold goods at h1
  have h2 := List.all_eq_true.1 h1 H.toNat (by simp; omega)
  have h3 := List.all_eq_true.1 h2 tn.toNat (by simp; omega)
  have h4 := List.all_eq_true.1 h3 (sh + 5).toNat (by simp; omega)
  rw [if_neg (by omega), show ((W.toNat : Nat) : Int) = W by omega, show ((H.toNat : Nat) : Int) = H by omega, show ((tn.toNat : Nat) : Int) = tn by omega, show (((sh + 5).toNat : Nat) : Int) - 5 = sh by omega, hc] at h4
  exact h4

theorem nope {α : Type} {c : Prop} [Decidable c] {x : α} {a b : Option α} (ha : a ≠ some x) (h : (if c then a else b) = some x) : ¬ c ∧ b = some x := by
  by_cases hc : c
  · rw [if_pos hc] at h; exact absurd h ha
  · rw [if_neg hc] at h; exact ⟨hc, h⟩
theorem ways {α : Type} {c : Prop} [Decidable c] {x : α} {a b : Option α} {Q : Prop} (ha : c → a = some x → Q) (hb : ¬ c → b = some x → Q) (h : (if c then a else b) = some x) : Q := by
  by_cases hc : c
  · rw [if_pos hc] at h; exact ha hc h
  · rw [if_neg hc] at h; exact hb hc h
section
variable {k : Nat} {b : Bool} {kd W H tn sh : Int} (hW : 1 ≤ W ∧ W ≤ 6) (hH : 1 ≤ H ∧ H ≤ 6)
include hW hH
theorem ok4 (h : topo_Check.j4 (k + 1) b kd W H tn sh = some 0) : b = false ∧ (tn = 0 ∨ (-5 ≤ sh ∧ sh ≤ 5)) := by
  rw [topo_Check.j4] at h
  obtain ⟨h1, h⟩ := nope (by decide) h
  refine ⟨by simpa using h1, ?_⟩
  refine ways (fun h _ => .inl h) (fun _ h => ?_) h
  rw [topo_turned.f] at h
  obtain ⟨t, ht, h⟩ := Option.bind_eq_some_iff.1 h
  have hb : 1 ≤ t ∧ t ≤ 6 := by
    refine ways (fun _ h => ?_) (fun _ h => ?_) ht
    · have := Option.some.inj h; omega
    · have := Option.some.inj h; omega
  obtain ⟨h2, h⟩ := nope (by decide) h
  obtain ⟨h3, h⟩ := nope (by decide) h
  rw [w64 ⟨by omega, by omega⟩] at h2
  exact .inr ⟨by omega, by omega⟩
theorem ok3 (h : topo_Check.j3 (k + 2) b kd W H tn sh = some 0) : b = false ∧ -5 ≤ sh ∧ sh ≤ 5 := by
  rw [topo_Check.j3] at h
  obtain ⟨h1, h⟩ := nope (by decide) h
  refine ⟨by simpa using h1, ?_⟩
  refine ways (fun _ h => ?_) (fun h0 h => ?_) h
  · have h2 := (ok4 hW hH h).1
    have h3 : sh = 0 := by simpa using h2
    omega
  · rcases (ok4 hW hH h).2 with h2 | h2
    · exact absurd h2 h0
    · exact h2
theorem ok2 (h : topo_Check.j2 (k + 3) b kd W H tn sh = some 0) : tn ≤ 2 ∧ -5 ≤ sh ∧ sh ≤ 5 := by
  rw [topo_Check.j2] at h
  refine ways (fun h0 h => ?_) (fun h0 h => ⟨by omega, ?_⟩) h
  · have h1 := (ok3 hW hH h).1
    rw [decide_eq_true h0] at h1
    cases h1
  · refine ways (fun _ h => ways (fun _ h => (ok3 hW hH h).2) (fun _ h => (ok3 hW hH h).2) h) (fun _ h => ways (fun _ h => ways (fun _ h => (ok3 hW hH h).2) (fun _ h => (ok3 hW hH h).2) h) (fun _ h => (ok3 hW hH h).2) h) h
theorem ok1 (h : topo_Check.j1 (k + 4) b kd W H tn sh = some 0) : b = false ∧ tn ≤ 2 ∧ -5 ≤ sh ∧ sh ≤ 5 := by
  rw [topo_Check.j1] at h
  obtain ⟨h1, h⟩ := nope (by decide) h
  refine ⟨by simpa using h1, ?_⟩
  have two : ∀ {q : Bool}, (if W = 0 then some 42 else if H = 0 then some 42 else topo_Check.j2 (k + 3) q kd W H tn sh) = some 0 → tn ≤ 2 ∧ -5 ≤ sh ∧ sh ≤ 5 := fun h => ok2 hW hH (nope (by decide) (nope (by decide) h).2).2
  refine ways (fun _ h => ways (fun _ h => two h) (fun _ h => absurd h (by decide)) h) (fun _ h => ways (fun _ h => two h) (fun _ h => ways (fun _ h => two h) (fun _ h => ways (fun _ h => ok2 hW hH h) (fun _ h => ok2 hW hH h) h) h) h) h
theorem ok0 (h : topo_Check.j0 (k + 5) b kd W H tn sh = some 0) : b = false ∧ tn ≤ 2 ∧ -5 ≤ sh ∧ sh ≤ 5 := by
  rw [topo_Check.j0] at h
  obtain ⟨h1, h⟩ := nope (by decide) h
  refine ⟨by simpa using h1, ?_⟩
  refine ways (fun _ h => (ok1 hW hH h).2) (fun _ h => ways (fun _ h => (ok1 hW hH h).2) (fun _ h => ways (fun _ h => (ok1 hW hH h).2) (fun _ h => (ok1 hW hH h).2) h) h) h
theorem check_ok (h : topo_Check.f 8 kd W H tn sh = some 0) : (1 ≤ kd ∧ kd ≤ 5) ∧ tn ≤ 2 ∧ -5 ≤ sh ∧ sh ≤ 5 := by
  rw [topo_Check.f] at h
  refine ways (fun _ h => ?_) (fun h0 h => ?_) h
  · have := (ok0 (k := 3) hW hH h).1
    cases this
  · obtain ⟨h1, h2⟩ := ok0 (k := 3) hW hH h
    have h3 := of_decide_eq_false h1
    exact ⟨⟨by omega, by omega⟩, h2⟩
end

theorem law (kd W H tn sh : Int) (h0 : 0 ≤ tn) : ∃ k, vivariumlaw06_FoldBeside.f k kd W H tn sh = some true := by
  obtain ⟨e, he⟩ := check_total kd W H tn sh
  have heU : ∀ K, 8 ≤ K → topo_Check.f K kd W H tn sh = some e := fun K hK => up (f := fun k => topo_Check.f k kd W H tn sh) (fun k => topo_Check.mono _ _ _ _ _ k) hK he
  have out : vivariumlaw06_FoldBeside.j0 100 true true kd W H tn sh = some true := by
    rw [vivariumlaw06_FoldBeside.j0, if_pos rfl]
  by_cases h : e = 0 ∧ 1 ≤ W ∧ 1 ≤ H ∧ W ≤ 6 ∧ H ≤ 6
  rotate_left
  · refine ⟨100, ?_⟩
    rw [vivariumlaw06_FoldBeside.f, awake_up (by omega), Option.bind_some, heU _ (by omega), Option.bind_some]
    by_cases h1 : e = 0
    · rw [if_pos h1]
      by_cases h2 : W < 1
      · rw [if_pos h2]; exact out
      rw [if_neg h2]
      by_cases h3 : H < 1
      · rw [if_pos h3]; exact out
      rw [if_neg h3]
      by_cases h4 : W > 6
      · rw [if_pos h4]; exact out
      rw [if_neg h4, decide_eq_true (by omega)]
      exact out
    · rw [if_neg h1]; exact out
  obtain ⟨rfl, w1, h1, w6, h6⟩ := h
  have hW : 1 ≤ W ∧ W ≤ 6 := ⟨w1, w6⟩
  have hH : 1 ≤ H ∧ H ≤ 6 := ⟨h1, h6⟩
  obtain ⟨hk, ht, hs⟩ := check_ok hW hH he
  have hgood := good_of he hW hH hk ⟨h0, ht⟩ hs
  obtain ⟨n, hn⟩ : ∃ n : Nat, (n : Int) = W * H := ⟨(W * H).toNat, by have := Int.mul_nonneg (show (0 : Int) ≤ W by omega) (show (0 : Int) ≤ H by omega); omega⟩
  have hn36 := n_le hW hH hn
  unfold good at hgood
  dsimp only at hgood
  rw [show (W * H).toNat = n by omega, Bool.and_eq_true] at hgood
  obtain ⟨g1, g2⟩ := hgood
  have ho : ∀ a, a < n → nb kd W H tn sh a 4 = some (some a) := fun a ha => by
    have := List.all_eq_true.1 g1 a (by simpa using ha)
    simpa using this
  cases hA : accs (nb kd W H tn sh) n n with
  | none => rw [hA] at g2; cases g2
  | some p =>
    obtain ⟨A, B⟩ := p
    rw [hA] at g2
    obtain ⟨hg, hmu⟩ := mutual_of (fun a d b _ _ h => nb_lt hn h) hA (Nat.eq_of_beq_eq_true g2)
    have hx0 : Rel n (List.replicate (n * n) 0) (cc (nb kd W H tn sh) 0 0) := by
      refine ⟨by simp, fun a b ha hb => ?_⟩
      have := place_lt ha hb
      have e : cc (nb kd W H tn sh) 0 0 a b = 0 := by
        unfold cc
        rw [if_neg (Nat.not_lt_zero _)]
        split <;> rfl
      rw [e, List.getD_eq_getElem?_getD, List.getElem?_replicate, if_pos this]
      rfl
    obtain ⟨x7, hx, hwalk⟩ := cells he hW hH hn hg ho n 0 (by omega) _ hx0
    have hsym : ∀ a b, a < n → b < n → cc (nb kd W H tn sh) n 0 a b = cc (nb kd W H tn sh) n 0 b a := by
      intro a b ha hb
      unfold cc
      rw [if_pos ha, if_pos hb]
      exact hmu a b ha hb
    -- the rounds
    have hw := hwalk ((n + 2) * n + 1)
    rw [vivariumlaw06_FoldBeside.l0, if_neg (by omega), show (n + 2) * n + 1 + 20 = 20 + 1 + (n + 2) * n by omega] at hw
    replace hw := hw.trans (look2 hn36 hx hsym n 0 (Nat.zero_add n) 20)
    refine ⟨(n + 2) * n + 1 + 21 + 39 * n + 2 + 100, ?_⟩
    have hw' : vivariumlaw06_FoldBeside.l0 ((n + 2) * n + 1 + 21 + 39 * n + 100) n (List.replicate (n * n) 0) 0 kd W H tn sh (-(W / 2)) (-(H / 2)) W H = some true :=
      up (f := fun k => vivariumlaw06_FoldBeside.l0 k n (List.replicate (n * n) 0) 0 kd W H tn sh (-(W / 2)) (-(H / 2)) W H) (fun k => (vivariumlaw06_FoldBeside.mono_l k).2.2.1 _ _ _ _ _ _ _ _ _ _ _ _) (by omega) hw
    rw [vivariumlaw06_FoldBeside.f, awake_up (by omega), Option.bind_some, heU _ (by omega), Option.bind_some, if_pos rfl, if_neg (by omega), if_neg (by omega), if_neg (by omega), decide_eq_false (by omega)]
    rw [show (n + 2) * n + 1 + 21 + 39 * n + 2 + 100 = ((n + 2) * n + 1 + 21 + 39 * n + 100) + 1 + 1 by omega, vivariumlaw06_FoldBeside.j0, if_neg (by decide), home_at he hW hH (by omega), Option.bind_some]
    dsimp only
    rw [if_pos rfl, if_pos rfl, if_pos rfl, show (H != H) = false by simp, vivariumlaw06_FoldBeside.j1, if_neg (by decide)]
    have m1 : wrap64 (W * H) = (n : Int) := by rw [← hn, w64 (by omega)]
    have hnn : n * n ≤ 36 * 36 := Nat.mul_le_mul hn36 hn36
    have m2 : wrap64 ((n : Int) * n) = ((n * n : Nat) : Int) := by
      have : (n : Int) * n = ((n * n : Nat) : Int) := by simp
      rw [this, w64 (by omega)]
    rw [m1, m2, if_pos (by omega), if_pos (by omega), show ((n * n : Nat) : Int).toNat = n * n by omega]
    exact hw'
end Go.Proofs.Ytfgoplgdhnjkdaa.Be
