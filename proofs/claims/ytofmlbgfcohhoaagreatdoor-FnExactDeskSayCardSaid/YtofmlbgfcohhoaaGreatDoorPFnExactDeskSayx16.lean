import Derived.Test.YtofmlbgfcohhoaaGreatDoorPFnExactDeskSayx0
set_option maxHeartbeats 8000000
set_option maxRecDepth 100000
namespace Go.Proofs.YtofmlbgfcohhoaaGreatDoor.PFnExactDeskSay
open Go.RowKit Go.Proofs.YtofmlbgfcohhoaaGreatDoorW.PrintWords Go.Proofs.YtofmlbgfcohhoaaGreatDoorW.PrintLast Go.Proofs.YtofmlbgfcohhoaaGreatDoorW.PrintMore Go.Proofs.YtofmlbgfcohhoaaGreatDoor.Lib Go.Proofs.Tryz
attribute [local go_sem] max2_int min2_int max_two min_two max_three min_three max_four min_four   -- for this text's walks alone
set_option linter.unusedVariables false
set_option linter.unusedSimpArgs false

/-! ### impl_isPart: function 116 -/
def impl_isPart.f (a0 : Int) : Option (Bool) := if a0 ≥ (-1000000) then (some (decide (a0 ≤ 1000000))) else (some false)
theorem impl_isPart.calls (a0 : Int) (r : Bool) (w : World) (H : impl_isPart.f a0 = some r) :
  Calls prog 116 #[.int .i64 a0] w fun e w' => e = .returned (.bool r) ∧ Drawn0 w w' := by
 unfold impl_isPart.f at H
 by_cases c2 : a0 ≥ (-1000000)
 ·rw [if_pos c2] at H
  have c2b0 : decide ((-1000000) ≤ a0) = true := decide_eq_true c2
  clear c2
  obtain rfl := sqo H
  go_enter func116, ntmps116
  go_wp2
  go_ret
  exact ⟨Z4, Z51⟩
 rw [if_neg c2] at H
 have c2b0 : decide ((-1000000) ≤ a0) = false := decide_eq_false c2
 clear c2
 obtain rfl := sqo H
 go_enter func116, ntmps116
 go_wp2
 go_ret
 exact ⟨Z4, Z51⟩

/-! ### impl_gcd: function 117 -/
def impl_gcd.l0 : Nat → Int → Int → Option (Int)
 | 0, _, _ => none
 | k + 1, x0, x1 => if x1 = 0 then (some (mx x0 (wrap64 (-x0)))) else (impl_gcd.l0 k x1 (Int.tmod x0 x1))
def impl_gcd.f (k : Nat) (a0 : Int) (a1 : Int) : Option (Int) := impl_gcd.l0 k a0 a1
abbrev impl_gcd.M (k : Nat) : Prop := (∀ y0 y1, LeO (impl_gcd.l0 k y0 y1) (impl_gcd.l0 (k + 1) y0 y1))
theorem impl_gcd.mono_t : ∀ k, impl_gcd.M k → impl_gcd.M (k + 1) ∧ ∀ a0 a1, LeO (impl_gcd.f k a0 a1) (impl_gcd.f (k + 1) a0 a1) := by
  rintro k ih0
  refine ⟨?_, ?_⟩ <;> (try unfold impl_gcd.M) <;> intros <;> (first | unfold impl_gcd.l0 | unfold impl_gcd.f) <;> repeat' (with_reducible first | exact ih0 _ _ | exact LeO.refl _ | exact LeO.none _ | refine LeO.ite ?_ ?_ | refine LeO.bind ?_ fun _ => ?_)
theorem impl_gcd.mono_l : ∀ k, impl_gcd.M k
 | 0 => fun _ _ r h => by simp [impl_gcd.l0] at h
 | k + 1 => (impl_gcd.mono_t k (impl_gcd.mono_l k)).1
theorem impl_gcd.mono a0 a1 k : LeO (impl_gcd.f k a0 a1) (impl_gcd.f (k + 1) a0 a1) := (impl_gcd.mono_t k (impl_gcd.mono_l k)).2 a0 a1
theorem impl_gcd.calls (k : Nat) (a0 : Int) (a1 : Int) (r : Int) (w : World) (H : impl_gcd.f k a0 a1 = some r) :
  Calls prog 117 #[.int .i64 a0, .int .i64 a1] w fun e w' => e = .returned (.int .i64 r) ∧ Below w.heap.size w w' := by
 have HB := sqh w
 unfold impl_gcd.f at H
 have H' := sqa H
 clear H
 go_enter func117, ntmps117
 go_wp2
 repeat (go_quiet (fail); try go_wp2)
 go_loopg [0, 1] k (fun kq v0 v1 w' => ∃ (x0_1 : Int) (x1_1 : Int), v0 = .int .i64 x0_1 ∧ v1 = .int .i64 x1_1 ∧ Aside0 (impl_gcd.l0 kq x0_1 x1_1 = some r) ∧ Aside0 (kq ≤ k) ∧ Aside0 (Below w.heap.size w w'))
 case atStart => exact ⟨(a0), (a1), Z4, Z4, H', ⟨Nat.le_refl _⟩, ⟨sqB HB⟩⟩
 case round =>
  clear H'
  obtain ⟨x0_1, x1_1, rfl, rfl, HA, HK1, HB⟩ := hrel
  cases gk with
  | zero => exact absurd HA.out (by simp [impl_gcd.l0])
  | succ k1 =>
   have H := HA.out
   clear HA
   simp only [impl_gcd.l0] at H
   by_cases c3 : x1_1 = 0
   ·rw [if_pos c3] at H
    have c3b0 : (x1_1 == 0) = true := sqe1 c3
    have c3b1 : (x1_1 != 0) = false := sqn0 c3
    clear c3
    obtain ⟨ji4, hji4⟩ : ∃ j_ : Int, (mx x0_1 (wrap64 (-x0_1))) = j_ := ⟨_, rfl⟩
    replace H : (some ji4) = some r := by first | (rw [hji4] at H; exact H) | (simp only [hji4] at H ⊢; exact H)
    have hji4_ : (if x0_1 < (wrap64 (-x0_1)) then (wrap64 (-x0_1)) else x0_1) = ji4 := hji4
    obtain rfl := sqo H
    go_wp2
    repeat (go_quiet (fail); try go_wp2)
    go_ret
    exact ⟨by first | rfl | (simp [errP_none, errP_some] <;> rfl) | (simp only [← hji4]; first | rfl | (simp [errP_none, errP_some] <;> rfl)) | (simp [*, errP_none, errP_some] <;> rfl), sqB HB⟩
   rw [if_neg c3] at H
   have c3b0 : (x1_1 == 0) = false := sqe0 c3
   have c3b1 : (x1_1 != 0) = true := sqn1 c3
   have H' := sqa H
   clear H
   go_wp2
   repeat (go_quiet (fail); try go_wp2)
   go_roundg k1
   case measure => have := HK1.out; omega
   case rel => exact ⟨(x1_1), (Int.tmod x0_1 x1_1), Z4, Z4, H', ⟨Z17 HK1⟩, ⟨sqB HB⟩⟩

/-! ### impl_isFraction: function 70 -/
def impl_isFraction.f (k : Nat) (a0_0 : Int) (a0_1 : Int) : Option (Bool) := (impl_isPart.f a0_0).bind fun t0 => (if t0 = true then (if a0_1 < 0 then (some false) else (if a0_1 > 1000000 then (some false) else (if a0_1 = 0 then (if a0_0 = 1 then ((impl_gcd.f k a0_0 a0_1).bind fun t1 => (some (t1 == 1))) else (some false)) else ((impl_gcd.f k a0_0 a0_1).bind fun t2 => (some (t2 == 1)))))) else (some false))
theorem impl_isFraction.mono : ∀ a0 a1 k, LeO (impl_isFraction.f k a0 a1) (impl_isFraction.f (k + 1) a0 a1) := by
 intro a0 a1 k
 unfold impl_isFraction.f
 repeat' (with_reducible first | exact impl_gcd.mono _ _ _ | exact LeO.refl _ | exact LeO.none _ | refine LeO.ite ?_ ?_ | refine LeO.bind ?_ fun _ => ?_)
theorem impl_isFraction.calls (k : Nat) (a0_0 : Int) (a0_1 : Int) (r : Bool) (w : World) (H : impl_isFraction.f k a0_0 a0_1 = some r) :
  Calls prog 70 #[.agg #[.int .i64 a0_0, .int .i64 a0_1]] w fun e w' => e = .returned (.bool r) ∧ Below w.heap.size w w' := by
 have hu31 := underlying31
 have HB := sqh w
 unfold impl_isFraction.f at H
 obtain ⟨t0, A2, H⟩ := sqD H
 by_cases c3 : t0 = true
 ·subst c3
  rw [if_pos rfl] at H
  by_cases c4 : a0_1 < 0
  ·rw [if_pos c4] at H
   have c4b0 : decide (a0_1 < 0) = true := decide_eq_true c4
   clear c4
   obtain rfl := sqo H
   go_enter func70, ntmps70
   go_wp2_with (first | ((with_reducible refine sqd 1 rfl ?_); refine sqBx w (sqB HB) (cs := #[.int .i64 a0_0, .int .i64 a0_1]) (t := 31) ?_; intro g0 hg w5 B0 E0 HB hb; clear hb hg; obtain ⟨_, _, _, _⟩ := sqY2 B0) | ((with_reducible refine sqc 116 rfl ?_); refine sqC (some 5) func116 #[.int .i64 a0_0] ?_; (with_reducible refine (impl_isPart.calls a0_0 true _ A2.1).mono ?_); rintro e w' ⟨rfl, ⟨nd, rfl⟩⟩; refine ⟨_, rfl, ?_⟩))
   go_ret
   exact ⟨Z16, sqB1 HB E0⟩
  rw [if_neg c4] at H
  have c4b0 : decide (a0_1 < 0) = false := decide_eq_false c4
  clear c4
  by_cases c7 : a0_1 > 1000000
  ·rw [if_pos c7] at H
   have c7b0 : decide (1000000 < a0_1) = true := decide_eq_true c7
   clear c7
   obtain rfl := sqo H
   go_enter func70, ntmps70
   go_wp2_with (first | ((with_reducible refine sqd 1 rfl ?_); refine sqBx w (sqB HB) (cs := #[.int .i64 a0_0, .int .i64 a0_1]) (t := 31) ?_; intro g0 hg w8 B0 E0 HB hb; clear hb hg; obtain ⟨_, _, _, _⟩ := sqY2 B0) | ((with_reducible refine sqc 116 rfl ?_); refine sqC (some 5) func116 #[.int .i64 a0_0] ?_; (with_reducible refine (impl_isPart.calls a0_0 true _ A2.1).mono ?_); rintro e w' ⟨rfl, ⟨nd, rfl⟩⟩; refine ⟨_, rfl, ?_⟩))
   go_ret
   exact ⟨Z16, sqB1 HB E0⟩
  rw [if_neg c7] at H
  have c7b0 : decide (1000000 < a0_1) = false := decide_eq_false c7
  clear c7
  by_cases c10 : a0_1 = 0
  ·rw [if_pos c10] at H
   have c10b0 : (a0_1 == 0) = true := sqe1 c10
   have c10b1 : (a0_1 != 0) = false := sqn0 c10
   clear c10
   by_cases c11 : a0_0 = 1
   ·rw [if_pos c11] at H
    have c11b0 : (a0_0 == 1) = true := sqe1 c11
    have c11b1 : (a0_0 != 1) = false := sqn0 c11
    clear c11
    obtain ⟨t1, A12, H⟩ := sqD H
    obtain rfl := sqo H
    go_enter func70, ntmps70
    go_wp2_with (first | ((with_reducible refine sqd 1 rfl ?_); refine sqBx w (sqB HB) (cs := #[.int .i64 a0_0, .int .i64 a0_1]) (t := 31) ?_; intro g0 hg w13 B0 E0 HB hb; clear hb hg; obtain ⟨_, _, _, _⟩ := sqY2 B0) | ((with_reducible refine sqc 116 rfl ?_); refine sqC (some 5) func116 #[.int .i64 a0_0] ?_; (with_reducible refine (impl_isPart.calls a0_0 true _ A2.1).mono ?_); rintro e w' ⟨rfl, ⟨nd, rfl⟩⟩; refine ⟨_, rfl, ?_⟩) | ((with_reducible refine sqc 117 rfl ?_); refine sqC (some 31) func117 #[.int .i64 a0_0, .int .i64 a0_1] ?_; (with_reducible refine (impl_gcd.calls k a0_0 a0_1 t1 _ A12.1).mono ?_); refine sqV fun w15 hb => ?_; replace B0 := sqT B0 hb; replace HB := sqS (sqB1 HB E0) hb; (try clear hb)))
    go_ret
    exact ⟨Z16, sqB1 HB E0⟩
   rw [if_neg c11] at H
   have c11b0 : (a0_0 == 1) = false := sqe0 c11
   have c11b1 : (a0_0 != 1) = true := sqn1 c11
   obtain rfl := sqo H
   go_enter func70, ntmps70
   go_wp2_with (first | ((with_reducible refine sqd 1 rfl ?_); refine sqBx w (sqB HB) (cs := #[.int .i64 a0_0, .int .i64 a0_1]) (t := 31) ?_; intro g0 hg w16 B0 E0 HB hb; clear hb hg; obtain ⟨_, _, _, _⟩ := sqY2 B0) | ((with_reducible refine sqc 116 rfl ?_); refine sqC (some 5) func116 #[.int .i64 a0_0] ?_; (with_reducible refine (impl_isPart.calls a0_0 true _ A2.1).mono ?_); rintro e w' ⟨rfl, ⟨nd, rfl⟩⟩; refine ⟨_, rfl, ?_⟩))
   go_ret
   exact ⟨Z16, sqB1 HB E0⟩
  rw [if_neg c10] at H
  have c10b0 : (a0_1 == 0) = false := sqe0 c10
  have c10b1 : (a0_1 != 0) = true := sqn1 c10
  obtain ⟨t2, A18, H⟩ := sqD H
  obtain rfl := sqo H
  go_enter func70, ntmps70
  go_wp2_with (first | ((with_reducible refine sqd 1 rfl ?_); refine sqBx w (sqB HB) (cs := #[.int .i64 a0_0, .int .i64 a0_1]) (t := 31) ?_; intro g0 hg w19 B0 E0 HB hb; clear hb hg; obtain ⟨_, _, _, _⟩ := sqY2 B0) | ((with_reducible refine sqc 116 rfl ?_); refine sqC (some 5) func116 #[.int .i64 a0_0] ?_; (with_reducible refine (impl_isPart.calls a0_0 true _ A2.1).mono ?_); rintro e w' ⟨rfl, ⟨nd, rfl⟩⟩; refine ⟨_, rfl, ?_⟩) | ((with_reducible refine sqc 117 rfl ?_); refine sqC (some 31) func117 #[.int .i64 a0_0, .int .i64 a0_1] ?_; (with_reducible refine (impl_gcd.calls k a0_0 a0_1 t2 _ A18.1).mono ?_); refine sqV fun w21 hb => ?_; replace B0 := sqT B0 hb; replace HB := sqS (sqB1 HB E0) hb; (try clear hb)))
  go_ret
  exact ⟨Z16, sqB1 HB E0⟩
 obtain rfl := sqb c3
 rw [if_neg sqF] at H
 obtain rfl := sqo H
 go_enter func70, ntmps70
 go_wp2_with (first | ((with_reducible refine sqd 1 rfl ?_); refine sqBx w (sqB HB) (cs := #[.int .i64 a0_0, .int .i64 a0_1]) (t := 31) ?_; intro g0 hg w22 B0 E0 HB hb; clear hb hg; obtain ⟨_, _, _, _⟩ := sqY2 B0) | ((with_reducible refine sqc 116 rfl ?_); refine sqC (some 5) func116 #[.int .i64 a0_0] ?_; (with_reducible refine (impl_isPart.calls a0_0 false _ A2.1).mono ?_); rintro e w' ⟨rfl, ⟨nd, rfl⟩⟩; refine ⟨_, rfl, ?_⟩))
 go_ret
 exact ⟨Z16, sqB1 HB E0⟩

/-! ### impl_isDesk_1: function 110 -/
def impl_isDesk_1.f (k : Nat) (a0_0 : Int) (a0_1 : Int) : Option (Bool) := (impl_isFraction.f k a0_0 a0_1).bind fun t0 => (some (!t0))
theorem impl_isDesk_1.mono : ∀ a0 a1 k, LeO (impl_isDesk_1.f k a0 a1) (impl_isDesk_1.f (k + 1) a0 a1) := by
 intro a0 a1 k
 unfold impl_isDesk_1.f
 repeat' (with_reducible first | exact impl_isFraction.mono _ _ _ | exact LeO.refl _ | exact LeO.none _ | refine LeO.ite ?_ ?_ | refine LeO.bind ?_ fun _ => ?_)
theorem impl_isDesk_1.calls (k : Nat) (a0_0 : Int) (a0_1 : Int) (r : Bool) (w : World) (H : impl_isDesk_1.f k a0_0 a0_1 = some r) :
  Calls prog 110 #[.agg #[.int .i64 a0_0, .int .i64 a0_1]] w fun e w' => e = .returned (.bool r) ∧ Below w.heap.size w w' := by
 have hu31 := underlying31
 have HB := sqh w
 unfold impl_isDesk_1.f at H
 obtain ⟨t0, A2, H⟩ := sqD H
 obtain rfl := sqo H
 go_enter func110, ntmps110
 go_wp2_with (first | ((with_reducible refine sqd 1 rfl ?_); refine sqBx w (sqB HB) (cs := #[.int .i64 a0_0, .int .i64 a0_1]) (t := 31) ?_; intro g0 hg w3 B0 E0 HB hb; clear hb hg; obtain ⟨_, _, _, _⟩ := sqY2 B0) | ((with_reducible refine sqc 70 rfl ?_); refine sqC (some 4) func70 #[.agg #[.int .i64 a0_0, .int .i64 a0_1]] ?_; (with_reducible refine (impl_isFraction.calls k a0_0 a0_1 t0 _ A2.1).mono ?_); refine sqV fun w5 hb => ?_; replace B0 := sqT B0 hb; replace HB := sqS (sqB1 HB E0) hb; (try clear hb)))
 go_ret
 exact ⟨Z16, sqB1 HB E0⟩

/-! ### impl_Fraction_137: function 137 -/
section
theorem gate_dyn {P : Program} {ops : Array Oper} {rest : List Oper} {o : Oper} {a : Act} {Q : Exit → Act → World → Prop} {W : World} {t : Tmp} {zs : Array Operand} {ts : Array TypeId} (_ho : o.op = .call { callee := .value (.tmp t), args := zs, argTypes := ts }) (h : wpList P ops Q (o :: rest) a W) : wpList P ops Q (o :: rest) a W := h
/-- A call of a function value that stands in a temporary: after the words' goesL_. -/
theorem goesV_ {P : Program} {ops : Array Oper} {Q : Exit → Act → World → Prop} {rest : List Oper} {oi : Oper} {a : Act} {w : World} (N : Option Tmp) (hd : oi.dst = N) (hg : oi.guard = none) {f : FuncId} {fn : Func} {t : Tmp} {zs : Array Operand} {ts : Array TypeId} (hf : P.funcs[f]? = some fn) (hname : (fn.name == "runtime.NumGoroutine") = false) (hb : fn.body.isSome = true) (args : Array Value)
  (hop : oi.op = .call { callee := .value (.tmp t), args := zs, argTypes := ts }) (hev : a.eval (.tmp t) = .func (.func f) #[] #[]) (hargs : zs.map a.eval = args)
  (h : Calls P f args w fun e w' => ∃ v, e = .returned v ∧ wpList P ops Q rest (a.put N v) w') : wpList P ops Q (oi :: rest) a w := by
 refine wpList_plain hg fun K hK => ?_
 have he := enters_ hf hname hb args w
 have hrun : (execOp a.eval oi).run P w = .ok (.enter f args) w := by
  unfold execOp
  simp [hop, resolve, Deferred.ofValue, invoke, hev, hargs, he]
 unfold Oper.wp
 rw [hrun, Oper.upon_enter]
 refine h.mono fun e w'' hh => ?_
 obtain ⟨v, rfl, hk⟩ := hh
 subst hd
 exact hK _ _ hk
end
def impl_Fraction_137.l0 : Nat → List (S31) → Int → Int → Option (Int)
 | 0, _, _, _ => none
 | k + 1, x0, x7, x8 => if x8 < x7 then (if 0 ≤ x8 then (if x8 < (x0.length : Int) then ((impl_isDesk_1.f k ((rd_T31 x0 x8).f0) ((rd_T31 x0 x8).f1)).bind fun t0 => (if t0 = true then (some x8) else (impl_Fraction_137.l0 k x0 x7 (wrap64 (x8 + 1))))) else (none)) else (none)) else (some (-1))
def impl_Fraction_137.f (k : Nat) (l0 : List (S31)) (a1 : Int) : Option (Int) := impl_Fraction_137.l0 k l0 (l0.length : Int) 0
abbrev impl_Fraction_137.M (k : Nat) : Prop := (∀ y0 y1 y2, LeO (impl_Fraction_137.l0 k y0 y1 y2) (impl_Fraction_137.l0 (k + 1) y0 y1 y2))
theorem impl_Fraction_137.mono_t : ∀ k, impl_Fraction_137.M k → impl_Fraction_137.M (k + 1) ∧ ∀ a0 a1, LeO (impl_Fraction_137.f k a0 a1) (impl_Fraction_137.f (k + 1) a0 a1) := by
  rintro k ih0
  refine ⟨?_, ?_⟩ <;> (try unfold impl_Fraction_137.M) <;> intros <;> (first | unfold impl_Fraction_137.l0 | unfold impl_Fraction_137.f) <;> repeat' (with_reducible first | exact ih0 _ _ _ | exact impl_isDesk_1.mono _ _ _ | exact LeO.refl _ | exact LeO.none _ | refine LeO.ite ?_ ?_ | refine LeO.bind ?_ fun _ => ?_)
theorem impl_Fraction_137.mono_l : ∀ k, impl_Fraction_137.M k
 | 0 => fun _ _ _ r h => by simp [impl_Fraction_137.l0] at h
 | k + 1 => (impl_Fraction_137.mono_t k (impl_Fraction_137.mono_l k)).1
theorem impl_Fraction_137.mono a0 a1 k : LeO (impl_Fraction_137.f k a0 a1) (impl_Fraction_137.f (k + 1) a0 a1) := (impl_Fraction_137.mono_t k (impl_Fraction_137.mono_l k)).2 a0 a1
theorem impl_Fraction_137.calls (k : Nat) (A0 : Option Addr) (c0 : Nat) (l0 : List (S31)) (a1 : Int) (r : Int) (w : World) (hr0 : Kd.C k31 w A0 l0.length l0) (hc0 : l0.length ≤ c0) (H : impl_Fraction_137.f k l0 a1 = some r) :
  Calls prog 137 #[.slice A0 l0.length c0, .func (.func 110) #[] #[]] w fun e w' => e = .returned (.int .i64 r) ∧ Below w.heap.size w w' := by
 have hu31 := underlying31
 have HR0 := sqa hr0
 have HC0 := sqa hc0
 clear hr0 hc0
 have HB := sqh w
 unfold impl_Fraction_137.f at H
 have H' := sqa H
 clear H
 go_enter func137, ntmps137
 go_wp2
 go_loopg [8] k (fun kq v8 w' => ∃ (x8_1 : Int), v8 = .int .i64 x8_1 ∧ Aside0 (impl_Fraction_137.l0 kq l0 (l0.length : Int) x8_1 = some r) ∧ Aside0 (kq ≤ k) ∧ Aside0 (Below w.heap.size w w'))
 case atStart => exact ⟨(0), Z4, H', ⟨Nat.le_refl _⟩, ⟨sqB HB⟩⟩
 case round =>
  clear H'
  obtain ⟨x8_1, rfl, HA, HK1, HB⟩ := hrel
  cases gk with
  | zero => exact absurd HA.out (by simp [impl_Fraction_137.l0])
  | succ k1 =>
   have H := HA.out
   clear HA
   simp only [impl_Fraction_137.l0] at H
   by_cases c3 : x8_1 < (l0.length : Int)
   ·rw [if_pos c3] at H
    have c3b0 : decide (x8_1 < (l0.length : Int)) = true := decide_eq_true c3
    clear c3
    obtain ⟨c4, H⟩ := sqI H
    have c4b0 : decide (0 ≤ x8_1) = true := decide_eq_true c4
    clear c4
    obtain ⟨c5, H⟩ := sqI H
    have c5b0 : decide (x8_1 < (l0.length : Int)) = true := decide_eq_true c5
    clear c5
    obtain ⟨t0, A6, H⟩ := sqD H
    by_cases c7 : t0 = true
    ·subst c7
     rw [if_pos rfl] at H
     obtain rfl := sqo H
     have p0 : 0 ≤ (x8_1 : Int) := of_decide_eq_true Z9
     have q0 : x8_1 < (l0.length : Int) := of_decide_eq_true Z9
     obtain ⟨ad0, e0, hx0, hx1⟩ := at_T31 HR0.1 x8_1 p0 q0
     cases e0
     replace hx0 := (HB.1.cell (World.block_lt_of_cell? w _ hx0)).trans hx0
     replace hx1 := (HB.1.cell (World.block_lt_of_cell? w _ hx1)).trans hx1
     replace p0 := eq_true p0
     replace q0 := eq_true q0
     go_wp2_with (first | ((with_reducible refine gate_dyn rfl ?_); refine goesV_ (some 16) rfl rfl func110 (by kernel_rfl) rfl #[.agg #[.int .i64 ((rd_T31 l0 x8_1).f0), .int .i64 ((rd_T31 l0 x8_1).f1)]] rfl (by rfl) sqA ?_; (with_reducible refine (impl_isDesk_1.calls k1 ((rd_T31 l0 x8_1).f0) ((rd_T31 l0 x8_1).f1) true _ A6.1).mono ?_); refine sqV fun w8 hb => ?_; replace HB := sqS (sqB HB) hb; (try clear hb)))
     go_ret
     exact ⟨Z16, sqB HB⟩
    obtain rfl := sqb c7
    rw [if_neg sqF] at H
    have H' := sqa H
    clear H
    have p0 : 0 ≤ (x8_1 : Int) := of_decide_eq_true Z9
    have q0 : x8_1 < (l0.length : Int) := of_decide_eq_true Z9
    obtain ⟨ad0, e0, hx0, hx1⟩ := at_T31 HR0.1 x8_1 p0 q0
    cases e0
    replace hx0 := (HB.1.cell (World.block_lt_of_cell? w _ hx0)).trans hx0
    replace hx1 := (HB.1.cell (World.block_lt_of_cell? w _ hx1)).trans hx1
    replace p0 := eq_true p0
    replace q0 := eq_true q0
    go_wp2_with (first | ((with_reducible refine gate_dyn rfl ?_); refine goesV_ (some 16) rfl rfl func110 (by kernel_rfl) rfl #[.agg #[.int .i64 ((rd_T31 l0 x8_1).f0), .int .i64 ((rd_T31 l0 x8_1).f1)]] rfl (by rfl) sqA ?_; (with_reducible refine (impl_isDesk_1.calls k1 ((rd_T31 l0 x8_1).f0) ((rd_T31 l0 x8_1).f1) false _ A6.1).mono ?_); refine sqV fun w9 hb => ?_; replace HB := sqS (sqB HB) hb; (try clear hb)))
    go_roundg k1
    case measure => have := HK1.out; omega
    case rel => exact ⟨(wrap64 (x8_1 + 1)), Z4, H', ⟨Z17 HK1⟩, ⟨sqB HB⟩⟩
   rw [if_neg c3] at H
   have c3b0 : decide (x8_1 < (l0.length : Int)) = false := decide_eq_false c3
   clear c3
   obtain rfl := sqo H
   go_wp2
   go_ret
   exact ⟨Z16, sqB HB⟩

/-! ### impl_Fraction_109: function 109 -/
def impl_Fraction_109.f (k : Nat) (l0 : List (S31)) (a1 : Int) : Option (Bool) := (impl_Fraction_137.f k l0 a1).bind fun t0 => (some (decide (t0 ≥ 0)))
theorem impl_Fraction_109.mono : ∀ a0 a1 k, LeO (impl_Fraction_109.f k a0 a1) (impl_Fraction_109.f (k + 1) a0 a1) := by
 intro a0 a1 k
 unfold impl_Fraction_109.f
 repeat' (with_reducible first | exact impl_Fraction_137.mono _ _ _ | exact LeO.refl _ | exact LeO.none _ | refine LeO.ite ?_ ?_ | refine LeO.bind ?_ fun _ => ?_)
theorem impl_Fraction_109.calls (k : Nat) (A0 : Option Addr) (c0 : Nat) (l0 : List (S31)) (a1 : Int) (r : Bool) (w : World) (hr0 : Kd.C k31 w A0 l0.length l0) (hc0 : l0.length ≤ c0) (H : impl_Fraction_109.f k l0 a1 = some r) :
  Calls prog 109 #[.slice A0 l0.length c0, .func (.func 110) #[] #[]] w fun e w' => e = .returned (.bool r) ∧ Below w.heap.size w w' := by
 have HR0 := sqa hr0
 have HC0 := sqa hc0
 clear hr0 hc0
 have HB := sqh w
 unfold impl_Fraction_109.f at H
 obtain ⟨t0, A3, H⟩ := sqD H
 obtain rfl := sqo H
 go_enter func109, ntmps109
 go_wp2_with (first | ((with_reducible refine sqc 137 rfl ?_); refine sqC (some 7) func137 #[.slice A0 l0.length c0, .func (.func 110) #[] #[]] ?_; (with_reducible refine (impl_Fraction_137.calls k _ _ l0 a1 t0 _ ?side1 ?side2 A3.1).mono ?_); (case side1 => repeat (first | exact HR0.1 | (with_reducible refine Kd.C_alloc ?_ _) | (with_reducible refine Kd.C_drewN ?_ _) | (with_reducible refine Kd.C_drew ?_))); (case side2 => exact HC0.1); refine sqV fun w4 hb => ?_; replace HB := sqS (sqB HB) hb; (try clear hb)))
 go_ret
 exact ⟨Z16, sqB HB⟩

/-! ### impl_isDesk: function 60 -/
def impl_isDesk.f (k : Nat) (a0_0 : Int) (a0_1 : Int) (l0_2 : List (S31)) : Option (Bool) := (impl_isFraction.f k a0_0 a0_1).bind fun t0 => (if t0 = true then (if (l0_2.length : Int) ≤ 8 then ((impl_Fraction_109.f k l0_2 777777).bind fun t1 => (some (!t1))) else (some false)) else (some false))
theorem impl_isDesk.mono : ∀ a0 a1 a2 k, LeO (impl_isDesk.f k a0 a1 a2) (impl_isDesk.f (k + 1) a0 a1 a2) := by
 intro a0 a1 a2 k
 unfold impl_isDesk.f
 repeat' (with_reducible first | exact impl_Fraction_109.mono _ _ _ | exact impl_isFraction.mono _ _ _ | exact LeO.refl _ | exact LeO.none _ | refine LeO.ite ?_ ?_ | refine LeO.bind ?_ fun _ => ?_)
theorem impl_isDesk.calls (k : Nat) (a0_0 : Int) (a0_1 : Int) (A0_2 : Option Addr) (c0_2 : Nat) (l0_2 : List (S31)) (r : Bool) (w : World) (hr0_2 : Kd.C k31 w A0_2 l0_2.length l0_2) (hc0_2 : l0_2.length ≤ c0_2) (H : impl_isDesk.f k a0_0 a0_1 l0_2 = some r) :
  Calls prog 60 #[.agg #[.int .i64 a0_0, .int .i64 a0_1, .slice A0_2 l0_2.length c0_2]] w fun e w' => e = .returned (.bool r) ∧ Below w.heap.size w w' := by
 have hu34 := underlying34
 have hu31 := underlying31
 have HR0_2 := sqa hr0_2
 have HC0_2 := sqa hc0_2
 clear hr0_2 hc0_2
 have HB := sqh w
 unfold impl_isDesk.f at H
 obtain ⟨t0, A2, H⟩ := sqD H
 by_cases c3 : t0 = true
 ·subst c3
  rw [if_pos rfl] at H
  by_cases c4 : (l0_2.length : Int) ≤ 8
  ·rw [if_pos c4] at H
   have c4b0 : decide ((l0_2.length : Int) ≤ 8) = true := decide_eq_true c4
   have c4b1 : decide (l0_2.length ≤ 8) = true := decide_eq_true (by omega)
   clear c4
   obtain ⟨t1, A5, H⟩ := sqD H
   obtain rfl := sqo H
   go_enter func60, ntmps60
   go_wp2_with (first | ((with_reducible refine sqd 1 rfl ?_); (try (refine gate_guard (by rfl) ?_; dsimp only)); refine sqBx w (sqB HB) (cs := #[.int .i64 a0_0, .int .i64 a0_1, .slice A0_2 l0_2.length c0_2]) (t := 34) ?_; intro g0 hg w6 B0 E0 HB hb; clear hb hg; obtain ⟨_, _, _, _, _, _⟩ := sqY3 B0) | ((with_reducible refine sqc 70 rfl ?_); refine sqC (some 5) func70 #[.agg #[.int .i64 a0_0, .int .i64 a0_1]] ?_; (with_reducible refine (impl_isFraction.calls k a0_0 a0_1 true _ A2.1).mono ?_); refine sqV fun w8 hb => ?_; replace B0 := sqT B0 hb; replace HB := sqS (sqB1 HB E0) hb; (try clear hb); obtain ⟨_, _, _, _, _, _⟩ := sqY3 B0) | (go_at_call 109; (with_reducible refine (impl_Fraction_109.calls k _ _ l0_2 777777 t1 _ ?side1 ?side2 A5.1).mono ?_); (case side1 => exact Z2); (case side2 => exact Z3); rintro e w10 ⟨rfl, hb⟩; replace B0 := sqT B0 hb; replace HB := sqS (sqB1 HB E0) hb; (try clear hb)))
   go_ret
   exact ⟨Z16, sqB1 HB E0⟩
  rw [if_neg c4] at H
  have c4b0 : decide ((l0_2.length : Int) ≤ 8) = false := decide_eq_false c4
  have c4b1 : decide (l0_2.length ≤ 8) = false := decide_eq_false (by omega)
  clear c4
  obtain rfl := sqo H
  go_enter func60, ntmps60
  go_wp2_with (first | ((with_reducible refine sqd 1 rfl ?_); (try (refine gate_guard (by rfl) ?_; dsimp only)); refine sqBx w (sqB HB) (cs := #[.int .i64 a0_0, .int .i64 a0_1, .slice A0_2 l0_2.length c0_2]) (t := 34) ?_; intro g0 hg w11 B0 E0 HB hb; clear hb hg; obtain ⟨_, _, _, _, _, _⟩ := sqY3 B0) | ((with_reducible refine sqc 70 rfl ?_); refine sqC (some 5) func70 #[.agg #[.int .i64 a0_0, .int .i64 a0_1]] ?_; (with_reducible refine (impl_isFraction.calls k a0_0 a0_1 true _ A2.1).mono ?_); refine sqV fun w13 hb => ?_; replace B0 := sqT B0 hb; replace HB := sqS (sqB1 HB E0) hb; (try clear hb); obtain ⟨_, _, _, _, _, _⟩ := sqY3 B0))
  go_ret
  exact ⟨Z16, sqB1 HB E0⟩
 obtain rfl := sqb c3
 rw [if_neg sqF] at H
 obtain rfl := sqo H
 go_enter func60, ntmps60
 go_wp2_with (first | ((with_reducible refine sqd 1 rfl ?_); (try (refine gate_guard (by rfl) ?_; dsimp only)); refine sqBx w (sqB HB) (cs := #[.int .i64 a0_0, .int .i64 a0_1, .slice A0_2 l0_2.length c0_2]) (t := 34) ?_; intro g0 hg w15 B0 E0 HB hb; clear hb hg; obtain ⟨_, _, _, _, _, _⟩ := sqY3 B0) | ((with_reducible refine sqc 70 rfl ?_); refine sqC (some 5) func70 #[.agg #[.int .i64 a0_0, .int .i64 a0_1]] ?_; (with_reducible refine (impl_isFraction.calls k a0_0 a0_1 false _ A2.1).mono ?_); refine sqV fun w17 hb => ?_; replace B0 := sqT B0 hb; replace HB := sqS (sqB1 HB E0) hb; (try clear hb)))
 go_ret
 exact ⟨Z16, sqB1 HB E0⟩

/-! ### impl_copyDesk: function 76 -/
def impl_copyDesk.f (a0_0 : Int) (a0_1 : Int) (l0_2 : List (S31)) : Option (Int × Int × (List (S31))) := (some (([] : List (S31)) : List (S31))).bind fun y0 => (if y0.length + l0_2.length < 8796093022208 then (some (a0_0, a0_1, (y0 ++ l0_2))) else (none))
def impl_copyDesk.T1 : Bool × List (List Nat × List Nat) := (true, [([], []), ([0], [0]), ([], []), ([], []), ([3], [3]), ([2, 4], [2, 4]), ([1, 5], [1, 5]), ([6, 5, 0, 1, 2, 3, 4, 5, 6], [6])])
def impl_copyDesk.B1 : List Nat := [0, 1, 0, 0, 8, 28, 63, 127]
theorem impl_copyDesk.tab1 : rtab .any (opsOf f76 1) = impl_copyDesk.T1 := by kernel_rfl
theorem impl_copyDesk.bits1 : waitsOk impl_copyDesk.T1.2 impl_copyDesk.B1 = true := by kernel_rfl
theorem impl_copyDesk.calls (a0_0 : Int) (a0_1 : Int) (A0_2 : Option Addr) (c0_2 : Nat) (l0_2 : List (S31)) (r1 : Int) (r2 : Int) (r3 : List (S31)) (w : World) (hr0_2 : Kd.C k31 w A0_2 l0_2.length l0_2) (hc0_2 : l0_2.length ≤ c0_2) (H : impl_copyDesk.f a0_0 a0_1 l0_2 = some (r1, r2, r3)) :
  Calls prog 76 #[.agg #[.int .i64 a0_0, .int .i64 a0_1, .slice A0_2 l0_2.length c0_2]] w fun e w' => ∃ v2_ : Value, e = .returned (.agg #[.int .i64 r1, .int .i64 r2, v2_]) ∧ Kd.R k31 31 w' w.heap.size (fun _ => True) v2_ r3 ∧ Below w.heap.size w w' := by
 have hu34 := underlying34
 have hu31 := underlying31
 have HR0_2 := sqa hr0_2
 have HC0_2 := sqa hc0_2
 clear hr0_2 hc0_2
 have HB := sqh w
 unfold impl_copyDesk.f at H
 obtain ⟨y0, hy0⟩ : ∃ y_ : List (S31), y_ = (([] : List (S31))) := ⟨_, rfl⟩
 replace H : (if y0.length + l0_2.length < 8796093022208 then (some (a0_0, a0_1, (y0 ++ l0_2))) else (none)) = some (r1, r2, r3) := sqW hy0 H
 have Ny0 := sqa hy0
 clear hy0
 obtain ⟨c2, H⟩ := sqI H
 have LMc2 := sqa c2
 clear c2
 obtain ⟨y1, hy1⟩ : ∃ y_ : List (S31), y_ = (y0 ++ l0_2) := ⟨_, rfl⟩
 replace H : (some (a0_0, a0_1, y1)) = some (r1, r2, r3) := sqW hy1 H
 have Ny1 := sqa hy1
 clear hy1
 obtain ⟨rfl, rfl, rfl⟩ := sqO3 H
 go_enter func76, ntmps76
 try go_wp2_with (first | ((with_reducible refine sqd 1 rfl ?_); refine sqBx w (sqB HB) (cs := #[.int .i64 a0_0, .int .i64 a0_1, .slice A0_2 l0_2.length c0_2]) (t := 34) ?_; intro g0 hg w3 B0 E0 HB hb; clear hb hg) | ((with_reducible refine sqd 2 rfl ?_); refine sqBx w (sqB1 HB E0) (cs := #[.int .i64 0, .int .i64 0, .slice none 0 0]) (t := 34) ?_; intro g1 hg w4 B2 E1 HB hb; obtain ⟨N0, N1⟩ := sqM hg B0; replace B0 := sqT B0 hb; clear hb hg))
 replace B0 := sqa (blk_drew B0.1)
 replace B2 := sqa (blk_drew B2.1)
 replace HB := sqa (below_drew1 HB.1)
 refine start_ (n := 8) (S := fun w' => w'.cell? ⟨g0, 0, none⟩ = some (.int .i64 a0_0) ∧ w'.cell? ⟨g0, 1, none⟩ = some (.int .i64 a0_1) ∧ w'.cell? ⟨g0, 2, none⟩ = some (.slice A0_2 l0_2.length c0_2)) (ds := []) #[false, false, false, false, false, false, false, false] (by kernel_rfl) rfl rfl (sqk1 B0) (fun hHeld => ?_); refine with_tabW impl_copyDesk.tab1 impl_copyDesk.bits1 (fun HT_ HW_ => ?_)
 generalize w4.drew = w5 at B0 B2 HB hHeld ⊢
 refine sqP 0 (some 3) (h := ?_)
 refine sqP 3 (some 6) (h := ?_)
 refine sqQ 1 (some 4) hHeld (h := ?_)
 refine sqQ 4 (some 7) hHeld (h := ?_)
 refine one_ (i := 2) (N := some 5) #[true, true, true, true, true, false, false, false] rfl rfl (one_of HT_.out (by kernel_rfl)) (by decide) (fun K hK => ?_)
 refine Kd.R_lit_step k31 _ 31 ?hg (N := 5) ?hd (xs := ([] : List (S31))) (inner := []) (ok := fun _ => True) (okp := fun _ => True) ?hr ?hp (fun _ hk => hk) trivial (Below.refl _ _) (Nat.le_refl _) (by simp) ?_; (case hd => rfl); (case hg => rfl); (case hr => exact Z10); (case hp => exact Z36)
 intro v0 w6 ho7 hb hg_ hnew_
 clear hg_ hnew_
 (first | rw [← Ny0.out] at ho7 | (simp only [Int.reduceToNat] at ho7; rw [← Ny0.out] at ho7))
 have O0 := sqL ho7 (sqB2 HB E0 E1)
 replace B0 := sqT B0 hb
 replace B2 := sqT B2 hb
 replace HB := sqS (sqB2 HB E0 E1) hb
 clear hb ho7
 refine hK.out _ _ (sqk1 B0) (fun hHeld => ?_)
 clear hK K
 refine sqN (some 5) ?_
 refine one_ (i := 5) (N := some 8) #[true, true, true, true, true, true, false, false] rfl rfl (one_of HT_.out (by kernel_rfl)) (by decide) (fun K hK => ?_)
 refine Kd.R_append_rows_step k31 (w0 := w) w.heap.size (by rfl) (.tmp 5) (.tmp 7) 32 31 (.agg #[(.int .i64 0), (.int .i64 0)]) 16 rfl underlying32 info31 rfl (by decide) (by omega) v0 y0 l0_2 _ _ _ (fun _ => True) (fun _ => False) rfl rfl ?aO ?aR (fun _ _ h => h) (fun _ h => h.elim) ?aF ?aB ?aS ?aL ?_
 (case aR => exact Z2)
 (case aB => exact (sqB2 HB E0 E1))
 (case aF => exact Z45)
 (case aO => exact (sqR O0))
 (case aS => exact (below_size (sqB2 HB E0 E1)))
 (case aL => exact Z17 LMc2)
 intro v1 w8 ho hb hg hat
 rw [← Ny1.out] at ho
 replace B0 := sqa (blk_grown (sqK B0) hg (Kd.R_ne O0.1 B0.1 (by decide)))
 replace B2 := sqa (blk_grown (sqK B2) hg (Kd.R_ne O0.1 B2.1 (by decide)))
 replace HB := sqa (hb)
 have O1 := sqa (ho)
 clear O0
 clear ho hb hg hat
 obtain ⟨Ao9, co9, eo9⟩ := Kd.R_slice O1.1
 (first | subst eo9 | (injection eo9 with f1_ f2_ f3_; have f4_ := f1_.symm; have f5_ := f3_.symm; clear f1_ f2_ f3_; subst f4_; subst f5_))
 refine hK.out _ _ (sqk1 B0) (fun hHeld => ?_)
 clear hK K
 refine sqN (some 8) ?_
 refine sqP 6 (some 9) (h := ?_)
 refine one_ (i := 7) (N := none) #[true, true, true, true, true, true, true, true] rfl rfl (one_of HT_.out (by kernel_rfl)) (by decide) (fun K hK => ?_)
 have hs10 : w8.cell? ⟨g1, 0, none⟩ = some (.int .i64 0) := (blk_cell B2.1 0).trans rfl
 have hfs10 := blk_frozen B2.1 0
 have hns10_0 := N0.1
 have hms10_0 := N1.1
 have hs11 : w8.cell? ⟨g1, 1, none⟩ = some (.int .i64 0) := (blk_cell B2.1 1).trans rfl
 have hfs11 := blk_frozen B2.1 1
 have hs12 : w8.cell? ⟨g1, 2, none⟩ = some (.slice none 0 0) := (blk_cell B2.1 2).trans rfl
 have hfs12 := blk_frozen B2.1 2
 refine skip_ (w1 := ?_) (by rfl) rfl ?_ ?_
 rotate_left
 ·go_simp
  rfl
 refine hK.out _ _ (sql1 N0 hHeld) (fun hHeld => ?_)
 clear hK K
 refine done_ (done_of HT_.out (by kernel_rfl)) ?_
 try go_wp2
 refine bodyPost_ret (results_cell_row rfl _ _ g1 34 #[.int .i64 a0_0, .int .i64 a0_1, .slice Ao9 y1.length co9] (0, 0) _ rfl (Z52 B2) underlying34 rfl (by kernel_rfl)) rfl ?_
 exact ⟨_, Z16, by (with_reducible repeat (first | apply Kd.R_alloc | apply Kd.R_drewN | apply Kd.R_drew)); exact Kd.R_mono (sqr3 O1.1 B2.1) (fun _ hk => trivial), sqB2 HB E0 E1⟩

-- given: function 139 (strings_Trim)

/-! ### impl_areMoves: function 118 -/
def impl_areMoves.f (a0 : ByteArray) : Option (Bool) := (strings_Trim.f a0 (⟨#[84, 116, 82]⟩ : ByteArray)).bind fun t0 => (some (t0.toList == ([] : List UInt8)))
theorem impl_areMoves.calls (a0 : ByteArray) (r : Bool) (w : World) (H : impl_areMoves.f a0 = some r) :
  Calls prog 118 #[.string a0] w fun e w' => e = .returned (.bool r) ∧ Below w.heap.size w w' := by
 have HB := sqh w
 unfold impl_areMoves.f at H
 obtain ⟨t0, A2, H⟩ := sqD H
 obtain rfl := sqo H
 go_enter func118, ntmps118
 go_wp2_with (first | ((with_reducible refine sqc 139 rfl ?_); refine sqC (some 4) func139 #[.string a0, .string (⟨#[84, 116, 82]⟩ : ByteArray)] ?_; (with_reducible refine (strings_Trim.calls a0 (⟨#[84, 116, 82]⟩ : ByteArray) t0 _ A2.1).mono ?_); refine sqV fun w3 hb => ?_; replace HB := sqS (sqB HB) hb; (try clear hb)))
 go_ret
 exact ⟨Z16, sqB HB⟩

/-! ### impl_isDance: function 71 -/
def impl_isDance.f (a0 : ByteArray) : Option (Bool) := if (a0.size : Int) ≤ 40 then ((impl_areMoves.f a0).bind fun t0 => (some t0)) else (some false)
theorem impl_isDance.calls (a0 : ByteArray) (r : Bool) (w : World) (H : impl_isDance.f a0 = some r) :
  Calls prog 71 #[.string a0] w fun e w' => e = .returned (.bool r) ∧ Below w.heap.size w w' := by
 have HB := sqh w
 unfold impl_isDance.f at H
 by_cases c2 : (a0.size : Int) ≤ 40
 ·rw [if_pos c2] at H
  have c2b0 : decide ((a0.size : Int) ≤ 40) = true := decide_eq_true c2
  have c2b1 : decide (a0.size ≤ 40) = true := decide_eq_true (by omega)
  clear c2
  obtain ⟨t0, A3, H⟩ := sqD H
  obtain rfl := sqo H
  go_enter func71, ntmps71
  go_wp2_with (first | (go_at_call 118; (with_reducible refine (impl_areMoves.calls a0 t0 _ A3.1).mono ?_); rintro e w4 ⟨rfl, hb⟩; replace HB := sqS (sqB HB) hb; (try clear hb)))
  go_ret
  exact ⟨Z16, sqB HB⟩
 rw [if_neg c2] at H
 have c2b0 : decide ((a0.size : Int) ≤ 40) = false := decide_eq_false c2
 have c2b1 : decide (a0.size ≤ 40) = false := decide_eq_false (by omega)
 clear c2
 obtain rfl := sqo H
 go_enter func71, ntmps71
 go_wp2
 go_ret
 exact ⟨Z16, sqB HB⟩

/-! ### impl_plus: function 119 -/
def impl_plus.f (k : Nat) (a0_0 : Int) (a0_1 : Int) (a1 : Int) : Option (Int × Int × Bool) := (impl_isFraction.f k (wrap64 (a0_0 + (wrap64 (a1 * a0_1)))) a0_1).bind fun t0 => (if t0 = true then (some (wrap64 (a0_0 + (wrap64 (a1 * a0_1))), a0_1, true)) else (some (0, 0, false)))
theorem impl_plus.mono : ∀ a0 a1 a2 k, LeO (impl_plus.f k a0 a1 a2) (impl_plus.f (k + 1) a0 a1 a2) := by
 intro a0 a1 a2 k
 unfold impl_plus.f
 repeat' (with_reducible first | exact impl_isFraction.mono _ _ _ | exact LeO.refl _ | exact LeO.none _ | refine LeO.ite ?_ ?_ | refine LeO.bind ?_ fun _ => ?_)
theorem impl_plus.calls (k : Nat) (a0_0 : Int) (a0_1 : Int) (a1 : Int) (r1 : Int) (r2 : Int) (r3 : Bool) (w : World) (H : impl_plus.f k a0_0 a0_1 a1 = some (r1, r2, r3)) :
  Calls prog 119 #[.agg #[.int .i64 a0_0, .int .i64 a0_1], .int .i64 a1] w fun e w' => e = .returned (.tuple #[.agg #[.int .i64 r1, .int .i64 r2], .bool r3]) ∧ Below w.heap.size w w' := by
 have hu31 := underlying31
 have HB := sqh w
 unfold impl_plus.f at H
 obtain ⟨t0, A3, H⟩ := sqD H
 by_cases c4 : t0 = true
 ·subst c4
  rw [if_pos rfl] at H
  obtain ⟨rfl, rfl, rfl⟩ := sqO3 H
  go_enter func119, ntmps119
  go_wp2_with (first | ((with_reducible refine sqd 2 rfl ?_); refine sqBx w (sqB HB) (cs := #[.int .i64 a0_0, .int .i64 a0_1]) (t := 31) ?_; intro g0 hg w5 B0 E0 HB hb; clear hb hg) | ((with_reducible refine sqd 4 rfl ?_); refine sqBx w (sqB1 HB E0) (cs := #[.int .i64 0, .int .i64 0]) (t := 31) ?_; intro g1 hg w6 B2 E1 HB hb; obtain ⟨N0, N1⟩ := sqM hg B0; replace B0 := sqT B0 hb; clear hb hg; have := N0.1; have := N1.1; obtain ⟨_, _, _, _⟩ := sqY2 B0) | ((with_reducible refine sqc 70 rfl ?_); refine sqC (some 15) func70 #[.agg #[.int .i64 (wrap64 (a0_0 + (wrap64 (a1 * a0_1)))), .int .i64 a0_1]] ?_; (with_reducible refine (impl_isFraction.calls k (wrap64 (a0_0 + (wrap64 (a1 * a0_1)))) a0_1 true _ A3.1).mono ?_); refine sqV fun w9 hb => ?_; replace B0 := sqa (blk_below (g := g0) (o := .cells #[.int .i64 (wrap64 (a0_0 + (wrap64 (a1 * a0_1)))), .int .i64 a0_1] 31 (0, 0)) (by refine sqPut (cs := #[.int .i64 a0_0, .int .i64 a0_1]) ?_ 0; exact sqK B0) hb); replace B2 := sqH N1 B2 hb; replace HB := sqS (sqB2 HB E0 E1) hb; (try clear hb); have hcz10_0 : w9.cell? ⟨g0, 0, none⟩ = some (.int .i64 (wrap64 (a0_0 + (wrap64 (a1 * a0_1))))) := (blk_cell B0.1 0).trans rfl; have hcz10_1 := sqZ B0 1 (.int .i64 a0_1); have hfz10_0 := blk_frozen B0.1 0; have hfz10_1 := blk_frozen B0.1 1; obtain ⟨_, _, _, _⟩ := sqY2 B2))
  refine sqE g1 31 #[.int .i64 (wrap64 (a0_0 + (wrap64 (a1 * a0_1)))), .int .i64 a0_1] (Z53 B2) underlying31 ?_
  exact ⟨Z16, sqB2 HB E0 E1⟩
 obtain rfl := sqb c4
 rw [if_neg sqF] at H
 obtain ⟨rfl, rfl, rfl⟩ := sqO3 H
 go_enter func119, ntmps119
 go_wp2_with (first | ((with_reducible refine sqd 2 rfl ?_); refine sqBx w (sqB HB) (cs := #[.int .i64 a0_0, .int .i64 a0_1]) (t := 31) ?_; intro g0 hg w12 B0 E0 HB hb; clear hb hg) | ((with_reducible refine sqd 4 rfl ?_); refine sqBx w (sqB1 HB E0) (cs := #[.int .i64 0, .int .i64 0]) (t := 31) ?_; intro g1 hg w13 B2 E1 HB hb; obtain ⟨N0, N1⟩ := sqM hg B0; replace B0 := sqT B0 hb; clear hb hg; have := N0.1; have := N1.1; obtain ⟨_, _, _, _⟩ := sqY2 B0) | ((with_reducible refine sqc 70 rfl ?_); refine sqC (some 15) func70 #[.agg #[.int .i64 (wrap64 (a0_0 + (wrap64 (a1 * a0_1)))), .int .i64 a0_1]] ?_; (with_reducible refine (impl_isFraction.calls k (wrap64 (a0_0 + (wrap64 (a1 * a0_1)))) a0_1 false _ A3.1).mono ?_); refine sqV fun w16 hb => ?_; replace B0 := sqa (blk_below (g := g0) (o := .cells #[.int .i64 (wrap64 (a0_0 + (wrap64 (a1 * a0_1)))), .int .i64 a0_1] 31 (0, 0)) (by refine sqPut (cs := #[.int .i64 a0_0, .int .i64 a0_1]) ?_ 0; exact sqK B0) hb); replace B2 := sqH N1 B2 hb; replace HB := sqS (sqB2 HB E0 E1) hb; (try clear hb); obtain ⟨_, _, _, _⟩ := sqY2 B2))
 refine sqE g1 31 #[.int .i64 0, .int .i64 0] (Z54 B2) underlying31 ?_
 exact ⟨Z16, sqB2 HB E0 E1⟩

end Go.Proofs.YtofmlbgfcohhoaaGreatDoor.PFnExactDeskSay
