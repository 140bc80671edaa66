/- Which cell lies beside which: reckoned for every grid of sides up to 6. -/
import Derived.Test.YtfgoplgdhnjkdaaBe7
import Derived.Test.YtfgoplgdhnjkdaaBe6
namespace Go.Proofs.Ytfgoplgdhnjkdaa.Be
/-- What the place beside a cell is: none: a check fails; some none: nothing is counted; some (some k): the k-th cell is. -/
def nbr (kd W H tn sh u v : Int) : Option (Option Nat) :=
  match fold_way.f kd with
  | some f => match fold_dyn.f 10 f kd W H tn sh (-(W / 2)) (-(H / 2)) u v with
    | some (x, y, ok) => if ok = true then (if 0 ≤ x ∧ x < W ∧ 0 ≤ y ∧ y < H then some (some (x + W * y).toNat) else none) else (if kd = 1 then some none else none)
    | none => none
  | none => none
def nb (kd W H tn sh : Int) (a d : Nat) : Option (Option Nat) := nbr kd W H tn sh ((a : Int) % W + (d : Int) % 3 - 1) ((a : Int) / W + (d : Int) / 3 - 1)
def acc (g : Nat → Option (Option Nat)) (n a : Nat) : Nat → Option (Nat × Nat)
  | 0 => some (0, 0)
  | d + 1 => match acc g n a d, g d with
    | some (A, B), some (some b) => if d = 4 then some (A, B) else some (A + 16 ^ (n * a + b), B + 16 ^ (n * b + a))
    | some p, some none => some p
    | _, _ => none
def accs (g : Nat → Nat → Option (Option Nat)) (n : Nat) : Nat → Option (Nat × Nat)
  | 0 => some (0, 0)
  | a + 1 => match accs g n a, acc (g a) n a 9 with
    | some (A, B), some (A', B') => some (A + A', B + B')
    | _, _ => none
def good (kd W H tn sh : Int) : Bool :=
  let n := (W * H).toNat
  (List.range n).all (fun a => nb kd W H tn sh a 4 == some (some a)) && match accs (nb kd W H tn sh) n n with
  | some (A, B) => Nat.beq A B
  | none => false
def goods (kd : Int) (W : Nat) : Bool := (List.range 7).all fun H => (List.range 3).all fun tn => (List.range 11).all fun s =>
  if H = 0 then true else match topo_Check.f 8 kd W H tn ((s : Int) - 5) with
  | some 0 => good kd W H tn ((s : Int) - 5)
  | _ => true
def goodw (kd : Int) : Prop := ∀ W, 1 ≤ W → W ≤ 6 → goods kd W = true
theorem six {p : Nat → Bool} (h : (List.range 6).all (fun i => p (i + 1)) = true) : ∀ W, 1 ≤ W → W ≤ 6 → p W = true := by
  intro W h1 h2
  have := List.all_eq_true.1 h (W - 1) (by simp; omega)
  rwa [show W - 1 + 1 = W by omega] at this
theorem goods_of {kd : Int} (h : (List.range 6).all (fun i => goods kd (i + 1)) = true) : goodw kd := six h
theorem good1 : goodw 1 := goods_of (by decide +kernel)
theorem good4 : goodw 4 := goods_of (by decide +kernel)
theorem good5 : goodw 5 := goods_of (by decide +kernel)
end Go.Proofs.Ytfgoplgdhnjkdaa.Be
