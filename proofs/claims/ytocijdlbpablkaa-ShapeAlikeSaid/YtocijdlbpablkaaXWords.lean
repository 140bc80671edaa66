/- Words of the print: what the walks of this claim use of them. -/
import Derived.Test.YtocijdlbpablkaaWWords
import Derived.Test.YtocijdlbpablkaaWFoot
import Derived.Test.YtocijdlbpablkaaWLast
import Derived.Laws.FloatArith
import Derived.Laws.ComplexArith
set_option linter.unusedVariables false
set_option linter.unusedSimpArgs false
namespace Go.Proofs.YtocijdlbpablkaaW.XWords
open Go.RowKit Go.Proofs.YtocijdlbpablkaaW.PrintWords Go.Proofs.YtocijdlbpablkaaW.PrintLast
def kC128 : Kd (Nat × Nat) := Kd.scalar (fun c => Value.complex .f64 c.1 c.2) (fun _ => rfl)
def rd_C128 (xs : List (Nat × Nat)) (i : Int) : Nat × Nat := xs.getD i.toNat (0, 0)
theorem at_C128 {w : World} {A : Option Addr} {n : Nat} {xs : List (Nat × Nat)} (h : kC128.C w A n xs) (i : Int) (h0 : 0 ≤ i) (h1 : i < n) : ∃ ad, A = some ad ∧ w.cell? (ad.add i.toNat) = some (.complex .f64 (rd_C128 xs i).1 (rd_C128 xs i).2) := by
  obtain ⟨ad, c, e, _, hK, hc⟩ := Kd.C_get h (0, 0) i h0 h1
  refine ⟨ad, e, ?_⟩
  obtain rfl : c = [.complex .f64 (xs.getD i.toNat (0, 0)).1 (xs.getD i.toNat (0, 0)).2] := hK
  have hq := hc 0 _ rfl
  rwa [show kC128.sz = 1 from rfl, Nat.mul_one, Nat.add_zero] at hq
def fEq (a b : Nat) : Bool := FloatKind.f64.format.order a b == some .eq
def fNe (a b : Nat) : Bool := FloatKind.f64.format.order a b != some .eq
def fLt (a b : Nat) : Bool := FloatKind.f64.format.order a b == some .lt
def fLe (a b : Nat) : Bool := FloatKind.f64.format.order a b == some .lt || FloatKind.f64.format.order a b == some .eq
def fGt (a b : Nat) : Bool := FloatKind.f64.format.order a b == some .gt
def fGe (a b : Nat) : Bool := FloatKind.f64.format.order a b == some .gt || FloatKind.f64.format.order a b == some .eq
def cEqB (a b c d : Nat) : Bool := fEq a c && fEq b d
def cNeB (a b c d : Nat) : Bool := !(fEq a c && fEq b d)
def fNeg (a : Nat) : Nat := Op.negFloat .f64 a
def fAdd (x y : Nat) : Option Nat := floatBits .add .f64 x y
def fSub (x y : Nat) : Option Nat := floatBits .sub .f64 x y
def fMul (x y : Nat) : Option Nat := floatBits .mul .f64 x y
def cAdd (a b c d : Nat) : Option (Nat × Nat) := cSumBits .add .f64 a b c d
def cMul (a b c d : Nat) : Option (Nat × Nat) := cMulBits a b c d
def fInt (k : IntKind) (x : Nat) : Option Int := floatToIntVal .f64 x k
section
variable {P : Program} {x y r : Nat}
theorem binOp_fEq (t : TypeId) (a b : Nat) : binOp .eql t (.float .f64 a) (.float .f64 b) = pure (.bool (fEq a b)) := binOp_float_cmp_eql ..
theorem binOp_fNe (t : TypeId) (a b : Nat) : binOp .neq t (.float .f64 a) (.float .f64 b) = pure (.bool (fNe a b)) := binOp_float_cmp_neq ..
theorem binOp_fLt (t : TypeId) (a b : Nat) : binOp .lss t (.float .f64 a) (.float .f64 b) = pure (.bool (fLt a b)) := binOp_float_cmp_lss ..
theorem binOp_fLe (t : TypeId) (a b : Nat) : binOp .leq t (.float .f64 a) (.float .f64 b) = pure (.bool (fLe a b)) := binOp_float_cmp_leq ..
theorem binOp_fGt (t : TypeId) (a b : Nat) : binOp .gtr t (.float .f64 a) (.float .f64 b) = pure (.bool (fGt a b)) := binOp_float_cmp_gtr ..
theorem binOp_fGe (t : TypeId) (a b : Nat) : binOp .geq t (.float .f64 a) (.float .f64 b) = pure (.bool (fGe a b)) := binOp_float_cmp_geq ..
theorem binOp_cEq (t : TypeId) (a b c d : Nat) (w : World) : (binOp .eql t (.complex .f64 a b) (.complex .f64 c d)).run P w = .ok (.bool (cEqB a b c d)) w := run_eql_complex ..
theorem binOp_cNe (t : TypeId) (a b c d : Nat) (w : World) : (binOp .neq t (.complex .f64 a b) (.complex .f64 c d)).run P w = .ok (.bool (cNeB a b c d)) w := run_neq_complex ..
theorem unOp_fNeg (a : Nat) : Op.unary .neg (.float .f64 a) = pure (.float .f64 (fNeg a)) := rfl
theorem unOp_cNeg (a b : Nat) : Op.unary .neg (.complex .f64 a b) = pure (.complex .f64 (fNeg a) (fNeg b)) := rfl
theorem equalIn_f64 (d : Nat) (t : TypeId) (k : FloatKind) (a b : Nat) (hu : P.underlying t = some (.float k)) (w : World) : (Op.equalIn (d + 1) t (.float .f64 a) (.float .f64 b)).run P w = .ok (fEq a b) w := by
  simp [Op.equalIn, run_underlying hu, fEq, Op.floatEq]
theorem equalIn_c128 (d : Nat) (t : TypeId) (k : FloatKind) (a b c e : Nat) (hu : P.underlying t = some (.complex k)) (w : World) : (Op.equalIn (d + 1) t (.complex .f64 a b) (.complex .f64 c e)).run P w = .ok (cEqB a b c e) w := by
  simp [Op.equalIn, run_underlying hu, cEqB, fEq, Op.floatEq]
theorem run_fAdd (h : fAdd x y = some r) (t : TypeId) (w : World) : (binOp .add t (.float .f64 x) (.float .f64 y)).run P w = .ok (.float .f64 r) w := run_float_arith w .add t .f64 x y r h
theorem run_cAdd {a b c d : Nat} {r : Nat × Nat} (h : cAdd a b c d = some r) (t : TypeId) (w : World) : (binOp .add t (.complex .f64 a b) (.complex .f64 c d)).run P w = .ok (.complex .f64 r.1 r.2) w := run_complex_sum w .add (.inl rfl) t .f64 a b c d r.1 r.2 h
theorem run_cMul {a b c d : Nat} {r : Nat × Nat} (h : cMul a b c d = some r) (t : TypeId) (w : World) : (binOp .mul t (.complex .f64 a b) (.complex .f64 c d)).run P w = .ok (.complex .f64 r.1 r.2) w := run_complex_mul w t a b c d r.1 r.2 h
theorem run_fInt {k : IntKind} {n : Int} (h : fInt k x = some n) (src dst : TypeId) (hs : (P.underlying src).isSome = true) (hd : P.underlying dst = some (.int k)) (w : World) : (convert src dst (.float .f64 x)).run P w = .ok (.int k n) w := run_convert_float_int w src dst .f64 k x n hs hd h
theorem run_store_f64 (w : World) (a : Addr) (m : Mode) (k : FloatKind) (b : Nat) : (store a (.float k b) m).run P w = stored P w a (.float k b) m := run_store P w a _ m rfl
theorem run_store_c128 (w : World) (a : Addr) (m : Mode) (k : FloatKind) (b c : Nat) : (store a (.complex k b c) m).run P w = stored P w a (.complex k b c) m := run_store P w a _ m rfl
theorem run_store_fn (w : World) (a : Addr) (m : Mode) (f : Fn) (b c : Array Value) : (store a (.func f b c) m).run P w = stored P w a (.func f b c) m := run_store P w a _ m rfl
end
section
variable {P : Program} {ops : Array Oper} {rest : List Oper} {o : Oper} {a : Act} {Q : Exit → Act → World → Prop} {α : Type}
theorem XR_make (d : Kd α) {w0 W : World} (base e : Nat) (hgd : o.guard = none) {N : Tmp} (hd : o.dst = some N) (t : TypeId) (x y : Operand) (ho : o.op = .makeSlice t x y) (n : Int) (hx : a.eval x = .int .i64 0) (hy : a.eval y = .int .i64 n)
    (ht : P.underlying t = some (.slice e)) (z : Value) (bytes : Nat) (hinfo : (P.info? e).map (fun i => (i.zero, i.size, i.bytes)) = some (some z, d.sz, bytes)) (hz : z.cells.size = d.sz) (hs0 : 0 < d.sz) (hb0 : 0 < bytes)
    (z0 : α) {ok okp : Nat → Prop} (hzero : d.M W base okp z0 z.cells.toList) (hok : ∀ k, okp k → ok k) (hfresh : ok W.heap.size) (h0 : 0 ≤ n) (hl : n.toNat * bytes ≤ 281474976710656) (HB : Below base w0 W) (hbase : base ≤ W.heap.size)
    (h : ∀ v1 w1, d.R e w1 base ok v1 [] → Below base w0 w1 → W.grownBy w1 none → (∃ b, v1.ownBlock = some b ∧ W.heap.size ≤ b) → wpList P ops Q rest (a.put o.dst v1) w1) : wpList P ops Q (o :: rest) a W := by
  obtain ⟨m, rfl⟩ := Int.eq_ofNat_of_zero_le h0
  simp only [Int.toNat_natCast] at hl h
  obtain ⟨i0, hi, hzz⟩ := Option.map_eq_some_iff.1 hinfo
  simp only [Prod.mk.injEq] at hzz
  obtain ⟨hz0, hz1, hz2⟩ := hzz
  have hm : m ≤ 281474976710656 := Nat.le_trans (Nat.le_mul_of_pos_right _ hb0) hl
  have hr := run_make (P := P) W t e i0 z ht hi hz0 .i64 .i64 (0 : Int) (m : Int) (by omega) (by omega)
    (by
      have h3 : ((i0.bytes * m : Nat) : Int) ≤ 281474976710656 := by rw [hz2, Nat.mul_comm]; omega
      rwa [Int.natCast_mul] at h3) (by omega)
  simp only [Int.toNat_natCast] at hr
  rw [hz1] at hr
  have hrun : (execOp a.eval o).run P W = .ok (.value (.slice (some ⟨W.heap.size, 0, none⟩) 0 m)) (W.alloc (.cells (madeCells z.cells (m * d.sz)) e)) := by
    simp [execOp, ho, hx, hy, hr]
  refine Kd.event_run hgd hrun (h _ _ ⟨fun k hk => ?_, [], ⟨by simp, .inr ⟨W.heap.size, m, madeCells z.cells (m * d.sz), rfl, hbase, by simpa using heap_alloc_new W _, Nat.zero_le _, ?_, ?_, ?_⟩⟩, ?_⟩ (HB.alloc hbase _) (World.grownBy_alloc W _ none) ⟨W.heap.size, by simp [Value.ownBlock], Nat.le_refl _⟩)
  · have : W.heap.size = k := by simpa [Value.ownBlock] using hk
    subst this
    exact hfresh
  · simp only [maxLen]; omega
  · exact size_madeCells _ _
  · simp
  · exact Reps.none _ _
end
section
variable {P : Program} {ops : Array Oper} {Q : Exit → Act → World → Prop}
open Go.Proofs.YtocijdlbpablkaaW.PrintLast
theorem goesT_ {oi : Oper} {N : Option Tmp} {a : Act} {w : World} {K : Act → World → Prop} (f : FuncId) {s : Operand} {fn : Func} {as : Array Operand} {ts : Array TypeId} (hf : P.funcs[f]? = some fn) (hname : (fn.name == "runtime.NumGoroutine") = false) (hb : fn.body.isSome = true) (args : Array Value)
    (hw : Region.wanted oi (yielded ops a.tmps) = true) (hN : oi.dst = N) (hop : oi.op = .call { callee := .value s, args := as, argTypes := ts }) (hs : a.eval s = .func (.func f) #[] #[]) (hargs : as.map a.eval = args)
    (h : Calls P f args w fun e w' => ∃ v, e = .returned v ∧ K (a.put N v) w') : if Region.wanted oi (yielded ops a.tmps) = true then Oper.wp P oi a w K Q else K (a.put N undef) w := by
  refine call_ f args hw hN ?_ h
  have he := enters_ hf hname hb args w
  unfold execOp
  simp [hop, resolve, Deferred.ofValue, invoke, hargs, hs, he]
theorem goesLT_ {rest : List Oper} {oi : Oper} {a : Act} {w : World} (N : Option Tmp) (hd : oi.dst = N) (hg : oi.guard = none) {f : FuncId} {s : Operand} {fn : Func} {as : Array Operand} {ts : Array TypeId} (hf : P.funcs[f]? = some fn) (hname : (fn.name == "runtime.NumGoroutine") = false) (hb : fn.body.isSome = true) (args : Array Value)
    (hop : oi.op = .call { callee := .value s, args := as, argTypes := ts }) (hs : a.eval s = .func (.func f) #[] #[]) (hargs : as.map a.eval = args)
    (h : Calls P f args w fun e w' => ∃ v, e = .returned v ∧ wpList P ops Q rest (a.put N v) w') : wpList P ops Q (oi :: rest) a w := by
  refine wpList_plain hg fun K hK => ?_
  have he := enters_ hf hname hb args w
  have hrun : (execOp a.eval oi).run P w = .ok (.enter f args) w := by
    unfold execOp
    simp [hop, resolve, Deferred.ofValue, invoke, hs, hargs, he]
  unfold Oper.wp
  rw [hrun, Oper.upon_enter]
  refine h.mono fun e w'' hh => ?_
  obtain ⟨v, rfl, hk⟩ := hh
  subst hd
  exact hK _ _ hk
theorem gate_calleeT {rest : List Oper} {o : Oper} {a : Act} {W : World} {s : Nat} {as : Array Operand} {ts : Array TypeId} (_ho : o.op = .call { callee := .value (.tmp s), args := as, argTypes := ts }) (h : wpList P ops Q (o :: rest) a W) : wpList P ops Q (o :: rest) a W := h
end
end Go.Proofs.YtocijdlbpablkaaW.XWords
