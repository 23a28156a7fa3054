import Derived.Test.YtofmlbgfcohhoaaGreatDoorPFnDeskSayx3
set_option maxHeartbeats 8000000
set_option maxRecDepth 100000
namespace Go.Proofs.YtofmlbgfcohhoaaGreatDoor.PFnDeskSay
open Go.RowKit Go.Proofs.YtofmlbgfcohhoaaGreatDoorW.PrintWords Go.Proofs.YtofmlbgfcohhoaaGreatDoorW.PrintLast Go.Proofs.YtofmlbgfcohhoaaGreatDoorW.PrintMore Go.Proofs.YtofmlbgfcohhoaaGreatDoor.Lib Go.Proofs.Tryz
attribute [local go_sem] max2_int min2_int max_two min_two max_three min_three max_four min_four   -- for this text's walks alone
set_option linter.unusedVariables false
set_option linter.unusedSimpArgs false

def F15.l0 : Nat → Int → Int → Int → List (S31) → Option (Bool)
 | 0, _, _, _, _ => none
 | k + 1, x3, x0, x1, x2 => if x3 < (x2.length : Int) then (if 0 ≤ x3 then ((F0.f k ((rd_T31 x2 x3).f0) ((rd_T31 x2 x3).f1)).bind fun t119 => (if t119 = true then (F15.l0 k (wrap64 (x3 + 1)) x0 x1 x2) else (some false))) else (none)) else ((F0.f k x0 x1).bind fun t0 => (if t0 = true then (some (decide ((x2.length : Int) ≤ 8))) else (some false)))
def F15.f (k : Nat) (a0_0 : Int) (a0_1 : Int) (l0_2 : List (S31)) : Option (Bool) := F15.l0 k 0 a0_0 a0_1 l0_2
theorem F15.c (k : Nat) (a0_0 : Int) (a0_1 : Int) (A0_2 : Option Addr) (c0_2 : Nat) (l0_2 : List (S31)) (r : Bool) (w : World) (hr0_2 : Kd.C k31 w A0_2 l0_2.length l0_2) (hc0_2 : l0_2.length ≤ c0_2) (H : F15.f k a0_0 a0_1 l0_2 = some r) :
  Calls prog 30 #[.agg #[.int .i64 a0_0, .int .i64 a0_1, .slice A0_2 l0_2.length c0_2]] w fun e w' => e = .returned (.bool r) ∧ Below w.heap.size w w' := by
 have hu34 := underlying34
 have hu31 := underlying31
 have HR0_2 := sqa hr0_2
 have HC0_2 := sqa hc0_2
 clear hr0_2 hc0_2
 have HB := sqh w
 unfold F15.f at H
 have H' := sqa H
 clear H
 go_enter func30, ntmps30
 go_wp2_with (first | ((with_reducible refine sqd 1 rfl ?_); (try (refine gate_guard (by rfl) ?_; dsimp only)); refine sqx0 w (sqB HB) #[.int .i64 a0_0, .int .i64 a0_1, .slice A0_2 l0_2.length c0_2] 34 fun g0 w2 B0 E0 HB => ?_))
 go_loopg [3] k (fun kq v3 w' => ∃ (x3_1 : Int), v3 = .int .i64 x3_1 ∧ Aside0 (F15.l0 kq x3_1 a0_0 a0_1 l0_2 = some r) ∧ Aside0 (kq ≤ k) ∧ Aside0 (w'.heap[g0]? = some (.cells #[.int .i64 a0_0, .int .i64 a0_1, (.slice A0_2 l0_2.length c0_2)] 34 (0, 0))) ∧ Aside0 (Below w.heap.size w w'))
 case atStart => exact ⟨(0), Z1, H', ⟨Nat.le_refl _⟩, ⟨sqK B0⟩, ⟨sqB1 HB E0⟩⟩
 case round =>
  clear H'
  obtain ⟨x3_1, rfl, HA, HK1, B0, HB⟩ := hrel
  cases gk with
  | zero => exact absurd HA.out (by simp [F15.l0])
  | succ k1 =>
   have H := HA.out
   clear HA
   simp only [F15.l0] at H
   obtain ⟨c3b0, H⟩ | ⟨c3b0, H⟩ := sqi3 H
   ·obtain ⟨c4b0, H⟩ := sqJ2 H
    obtain ⟨t119, A5, H⟩ := sqD H
    obtain rfl | rfl := sqt t119
    ·rw [if_pos rfl] at H
     have H' := sqa H
     clear H
     have := sqY3 B0
     have p0 : 0 ≤ (x3_1 : Int) := of_decide_eq_true Z16
     have q0 : x3_1 < (l0_2.length : Int) := of_decide_eq_true Z16
     obtain ⟨ad0, e0, hx0, hx1⟩ := at_T31 HR0_2.1 x3_1 p0 q0
     cases e0
     replace hx0 := (HB.1.cell (World.block_lt_of_cell? w _ hx0)).trans hx0
     replace hx1 := (HB.1.cell (World.block_lt_of_cell? w _ hx1)).trans hx1
     replace p0 := eq_true p0
     replace q0 := eq_true q0
     go_wp2_with (first | ((with_reducible refine sqc 77 rfl ?_); refine sqv (some 16) func77 (F0.c k1 ((rd_T31 l0_2 x3_1).f0) ((rd_T31 l0_2 x3_1).f1) true _ A5.1) fun w8 hb => ?_; replace B0 := sqT B0 hb; replace HB := sqS (sqB1 HB E0) hb))
     go_roundg k1
     case measure => have := HK1.out; omega
     case rel => exact ⟨(wrap64 (x3_1 + 1)), Z1, H', ⟨Z2 HK1⟩, ⟨sqK B0⟩, ⟨sqB1 HB E0⟩⟩
    rw [if_neg sqF] at H
    obtain rfl := sqo H
    have := sqY3 B0
    have p0 : 0 ≤ (x3_1 : Int) := of_decide_eq_true Z16
    have q0 : x3_1 < (l0_2.length : Int) := of_decide_eq_true Z16
    obtain ⟨ad0, e0, hx0, hx1⟩ := at_T31 HR0_2.1 x3_1 p0 q0
    cases e0
    replace hx0 := (HB.1.cell (World.block_lt_of_cell? w _ hx0)).trans hx0
    replace hx1 := (HB.1.cell (World.block_lt_of_cell? w _ hx1)).trans hx1
    replace p0 := eq_true p0
    replace q0 := eq_true q0
    go_wp2_with (first | ((with_reducible refine sqc 77 rfl ?_); refine sqv (some 16) func77 (F0.c k1 ((rd_T31 l0_2 x3_1).f0) ((rd_T31 l0_2 x3_1).f1) false _ A5.1) fun w0 hb => ?_; replace B0 := sqT B0 hb; replace HB := sqS (sqB1 HB E0) hb))
    go_ret
    exact ⟨Z5, sqB1 HB E0⟩
   obtain ⟨t0, A0, H⟩ := sqD H
   obtain rfl | rfl := sqt t0
   ·rw [if_pos rfl] at H
    obtain rfl := sqo H
    have := sqY3 B0
    go_wp2_with (first | ((with_reducible refine sqc 77 rfl ?_); refine sqv (some 20) func77 (F0.c k1 a0_0 a0_1 true _ A0.1) fun w1 hb => ?_; replace B0 := sqT B0 hb; replace HB := sqS (sqB1 HB E0) hb; have := sqY3 B0))
    go_ret
    exact ⟨Z5, sqB1 HB E0⟩
   rw [if_neg sqF] at H
   obtain rfl := sqo H
   have := sqY3 B0
   go_wp2_with (first | ((with_reducible refine sqc 77 rfl ?_); refine sqv (some 20) func77 (F0.c k1 a0_0 a0_1 false _ A0.1) fun w3 hb => ?_; replace B0 := sqT B0 hb; replace HB := sqS (sqB1 HB E0) hb))
   go_ret
   exact ⟨Z5, sqB1 HB E0⟩

def F91.f (k : Nat) (a0_0 : Int) (a0_1 : Int) (l0_2 : List (S31)) : Option (Bool) := (F22.f k a0_0 a0_1 l0_2 0 0 ([] : List (S31))).bind fun t0 => (some t0)
theorem F91.c (k : Nat) (a0_0 : Int) (a0_1 : Int) (A0_2 : Option Addr) (c0_2 : Nat) (l0_2 : List (S31)) (r : Bool) (w : World) (hr0_2 : Kd.C k31 w A0_2 l0_2.length l0_2) (hc0_2 : l0_2.length ≤ c0_2) (H : F91.f k a0_0 a0_1 l0_2 = some r) :
  Calls prog 31 #[.agg #[.int .i64 a0_0, .int .i64 a0_1, .slice A0_2 l0_2.length c0_2]] w fun e w' => e = .returned (.bool r) ∧ Below w.heap.size w w' := by
 have hu34 := underlying34
 have HR0_2 := sqa hr0_2
 have HC0_2 := sqa hc0_2
 clear hr0_2 hc0_2
 have HB := sqh w
 unfold F91.f at H
 obtain ⟨t0, A2, H⟩ := sqD H
 obtain rfl := sqo H
 go_enter func31, ntmps31
 go_wp2_with (first | ((with_reducible refine sqd 1 rfl ?_); refine sqx0 w (sqB HB) #[.int .i64 a0_0, .int .i64 a0_1, .slice A0_2 l0_2.length c0_2] 34 fun g0 w3 B0 E0 HB => ?_; have := sqY3 B0) | ((with_reducible refine sqc 22 rfl ?_); refine sqC (some 5) func22 #[.agg #[.int .i64 a0_0, .int .i64 a0_1, .slice A0_2 l0_2.length c0_2], .agg #[.int .i64 0, .int .i64 0, .slice none 0 0]] ?_; (refine (F22.c k a0_0 a0_1 _ _ l0_2 0 0 _ _ ([] : List (S31)) t0 _ ?side1 ?side2 ?side3 ?side4 A2.1).mono ?_); (case side1 => exact Z35); (case side2 => exact Z36); (case side3 => exact Kd.C_nil _ _); (case side4 => exact Nat.le_refl _); refine sqV fun w5 hb => ?_; replace B0 := sqT B0 hb; replace HB := sqS (sqB1 HB E0) hb))
 go_ret
 exact ⟨Z5, sqB1 HB E0⟩

def F90.f (k : Nat) (a0_0 : Int) (a0_1 : Int) : Option (Bool) := (F3.f k a0_0 a0_1).bind fun t124 => (some (!t124))
theorem F90.c (k : Nat) (a0_0 : Int) (a0_1 : Int) (r : Bool) (w : World) (H : F90.f k a0_0 a0_1 = some r) :
  Calls prog 110 #[.agg #[.int .i64 a0_0, .int .i64 a0_1]] w fun e w' => e = .returned (.bool r) ∧ Below w.heap.size w w' := by
 have hu31 := underlying31
 have HB := sqh w
 unfold F90.f at H
 obtain ⟨t124, A2, H⟩ := sqD H
 obtain rfl := sqo H
 go_enter func110, ntmps110
 go_wp2_with (first | ((with_reducible refine sqd 1 rfl ?_); refine sqx0 w (sqB HB) #[.int .i64 a0_0, .int .i64 a0_1] 31 fun g0 w3 B0 E0 HB => ?_; have := sqY2 B0) | ((with_reducible refine sqc 70 rfl ?_); refine sqv (some 4) func70 (F3.c k a0_0 a0_1 t124 _ A2.1) fun w5 hb => ?_; replace B0 := sqT B0 hb; replace HB := sqS (sqB1 HB E0) hb))
 go_ret
 exact ⟨Z5, sqB1 HB E0⟩

section
theorem gate_dyn {P : Program} {ops : Array Oper} {rest : List Oper} {o : Oper} {a : Act} {Q : Exit → Act → World → Prop} {W : World} {t : Tmp} {zs : Array Operand} {ts : Array TypeId} (_ho : o.op = .call { callee := .value (.tmp t), args := zs, argTypes := ts }) (h : wpList P ops Q (o :: rest) a W) : wpList P ops Q (o :: rest) a W := h
/-- A call of a function value that stands in a temporary: after the words' goesL_. -/
theorem goesV_ {P : Program} {ops : Array Oper} {Q : Exit → Act → World → Prop} {rest : List Oper} {oi : Oper} {a : Act} {w : World} (N : Option Tmp) (hd : oi.dst = N) (hg : oi.guard = none) {f : FuncId} {fn : Func} {t : Tmp} {zs : Array Operand} {ts : Array TypeId} (hf : P.funcs[f]? = some fn) (hname : (fn.name == "runtime.NumGoroutine") = false) (hb : fn.body.isSome = true) (args : Array Value)
  (hop : oi.op = .call { callee := .value (.tmp t), args := zs, argTypes := ts }) (hev : a.eval (.tmp t) = .func (.func f) #[] #[]) (hargs : zs.map a.eval = args)
  (h : Calls P f args w fun e w' => ∃ v, e = .returned v ∧ wpList P ops Q rest (a.put N v) w') : wpList P ops Q (oi :: rest) a w := by
 refine wpList_plain hg fun K hK => ?_
 have he := enters_ hf hname hb args w
 have hrun : (execOp a.eval oi).run P w = .ok (.enter f args) w := by
  unfold execOp
  simp [hop, resolve, Deferred.ofValue, invoke, hev, hargs, he]
 unfold Oper.wp
 rw [hrun, Oper.upon_enter]
 refine h.mono fun e w'' hh => ?_
 obtain ⟨v, rfl, hk⟩ := hh
 subst hd
 exact hK _ _ hk
end
def F59.l0 : Nat → List (S31) → Int → Int → Option (Int)
 | 0, _, _, _ => none
 | k + 1, x0, x7, x8 => if x8 < x7 then (if 0 ≤ x8 then (if x8 < (x0.length : Int) then ((F90.f k ((rd_T31 x0 x8).f0) ((rd_T31 x0 x8).f1)).bind fun t0 => (if t0 = true then (some x8) else (F59.l0 k x0 x7 (wrap64 (x8 + 1))))) else (none)) else (none)) else (some (-1))
def F59.f (k : Nat) (l0 : List (S31)) (a1 : Int) : Option (Int) := F59.l0 k l0 (l0.length : Int) 0
theorem F59.c (k : Nat) (A0 : Option Addr) (c0 : Nat) (l0 : List (S31)) (a1 : Int) (r : Int) (w : World) (hr0 : Kd.C k31 w A0 l0.length l0) (hc0 : l0.length ≤ c0) (H : F59.f k l0 a1 = some r) :
  Calls prog 137 #[.slice A0 l0.length c0, .func (.func 110) #[] #[]] w fun e w' => e = .returned (.int .i64 r) ∧ Below w.heap.size w w' := by
 have hu31 := underlying31
 have HR0 := sqa hr0
 have HC0 := sqa hc0
 clear hr0 hc0
 have HB := sqh w
 unfold F59.f at H
 have H' := sqa H
 clear H
 go_enter func137, ntmps137
 go_wp2
 go_loopg [8] k (fun kq v8 w' => ∃ (x8_1 : Int), v8 = .int .i64 x8_1 ∧ Aside0 (F59.l0 kq l0 (l0.length : Int) x8_1 = some r) ∧ Aside0 (kq ≤ k) ∧ Aside0 (Below w.heap.size w w'))
 case atStart => exact ⟨(0), Z1, H', ⟨Nat.le_refl _⟩, ⟨sqB HB⟩⟩
 case round =>
  clear H'
  obtain ⟨x8_1, rfl, HA, HK1, HB⟩ := hrel
  cases gk with
  | zero => exact absurd HA.out (by simp [F59.l0])
  | succ k1 =>
   have H := HA.out
   clear HA
   simp only [F59.l0] at H
   obtain ⟨c3b0, H⟩ | ⟨c3b0, H⟩ := sqi3 H
   ·obtain ⟨c4b0, H⟩ := sqJ2 H
    obtain ⟨c5b0, H⟩ := sqJ2 H
    obtain ⟨t0, A6, H⟩ := sqD H
    obtain rfl | rfl := sqt t0
    ·rw [if_pos rfl] at H
     obtain rfl := sqo H
     have p0 : 0 ≤ (x8_1 : Int) := of_decide_eq_true Z16
     have q0 : x8_1 < (l0.length : Int) := of_decide_eq_true Z16
     obtain ⟨ad0, e0, hx0, hx1⟩ := at_T31 HR0.1 x8_1 p0 q0
     cases e0
     replace hx0 := (HB.1.cell (World.block_lt_of_cell? w _ hx0)).trans hx0
     replace hx1 := (HB.1.cell (World.block_lt_of_cell? w _ hx1)).trans hx1
     replace p0 := eq_true p0
     replace q0 := eq_true q0
     go_wp2_with (first | ((with_reducible refine gate_dyn rfl ?_); refine goesV_ (some 16) rfl rfl func110 (by kernel_rfl) rfl #[.agg #[.int .i64 ((rd_T31 l0 x8_1).f0), .int .i64 ((rd_T31 l0 x8_1).f1)]] rfl (by rfl) sqA ?_; (with_reducible refine (F90.c k1 ((rd_T31 l0 x8_1).f0) ((rd_T31 l0 x8_1).f1) true _ A6.1).mono ?_); refine sqV fun w8 hb => ?_; replace HB := sqS (sqB HB) hb))
     go_ret
     exact ⟨Z5, sqB HB⟩
    rw [if_neg sqF] at H
    have H' := sqa H
    clear H
    have p0 : 0 ≤ (x8_1 : Int) := of_decide_eq_true Z16
    have q0 : x8_1 < (l0.length : Int) := of_decide_eq_true Z16
    obtain ⟨ad0, e0, hx0, hx1⟩ := at_T31 HR0.1 x8_1 p0 q0
    cases e0
    replace hx0 := (HB.1.cell (World.block_lt_of_cell? w _ hx0)).trans hx0
    replace hx1 := (HB.1.cell (World.block_lt_of_cell? w _ hx1)).trans hx1
    replace p0 := eq_true p0
    replace q0 := eq_true q0
    go_wp2_with (first | ((with_reducible refine gate_dyn rfl ?_); refine goesV_ (some 16) rfl rfl func110 (by kernel_rfl) rfl #[.agg #[.int .i64 ((rd_T31 l0 x8_1).f0), .int .i64 ((rd_T31 l0 x8_1).f1)]] rfl (by rfl) sqA ?_; (with_reducible refine (F90.c k1 ((rd_T31 l0 x8_1).f0) ((rd_T31 l0 x8_1).f1) false _ A6.1).mono ?_); refine sqV fun w9 hb => ?_; replace HB := sqS (sqB HB) hb))
    go_roundg k1
    case measure => have := HK1.out; omega
    case rel => exact ⟨(wrap64 (x8_1 + 1)), Z1, H', ⟨Z2 HK1⟩, ⟨sqB HB⟩⟩
   obtain rfl := sqo H
   go_wp2
   go_ret
   exact ⟨Z5, sqB HB⟩

def F92.f (k : Nat) (l0 : List (S31)) (a1 : Int) : Option (Bool) := (F59.f k l0 a1).bind fun t127 => (some (decide (t127 ≥ 0)))
theorem F92.c (k : Nat) (A0 : Option Addr) (c0 : Nat) (l0 : List (S31)) (a1 : Int) (r : Bool) (w : World) (hr0 : Kd.C k31 w A0 l0.length l0) (hc0 : l0.length ≤ c0) (H : F92.f k l0 a1 = some r) :
  Calls prog 109 #[.slice A0 l0.length c0, .func (.func 110) #[] #[]] w fun e w' => e = .returned (.bool r) ∧ Below w.heap.size w w' := by
 have HR0 := sqa hr0
 have HC0 := sqa hc0
 clear hr0 hc0
 have HB := sqh w
 unfold F92.f at H
 obtain ⟨t127, A3, H⟩ := sqD H
 obtain rfl := sqo H
 go_enter func109, ntmps109
 go_wp2_with (first | ((with_reducible refine sqc 137 rfl ?_); refine sqv (some 7) func137 (args := #[.slice A0 l0.length c0, .func (.func 110) #[] #[]]) (F59.c k _ _ l0 a1 t127 _ (Z101 HR0) HC0.1 A3.1) fun w4 hb => ?_; replace HB := sqS (sqB HB) hb))
 go_ret
 exact ⟨Z5, sqB HB⟩

def F38.f (k : Nat) (a0_0 : Int) (a0_1 : Int) (l0_2 : List (S31)) : Option (Bool) := (F3.f k a0_0 a0_1).bind fun t0 => (if t0 = true then (if (l0_2.length : Int) ≤ 8 then ((F92.f k l0_2 777777).bind fun t1 => (some (!t1))) else (some false)) else (some false))
theorem F38.c (k : Nat) (a0_0 : Int) (a0_1 : Int) (A0_2 : Option Addr) (c0_2 : Nat) (l0_2 : List (S31)) (r : Bool) (w : World) (hr0_2 : Kd.C k31 w A0_2 l0_2.length l0_2) (hc0_2 : l0_2.length ≤ c0_2) (H : F38.f k a0_0 a0_1 l0_2 = some r) :
  Calls prog 60 #[.agg #[.int .i64 a0_0, .int .i64 a0_1, .slice A0_2 l0_2.length c0_2]] w fun e w' => e = .returned (.bool r) ∧ Below w.heap.size w w' := by
 have hu34 := underlying34
 have hu31 := underlying31
 have HR0_2 := sqa hr0_2
 have HC0_2 := sqa hc0_2
 clear hr0_2 hc0_2
 have HB := sqh w
 unfold F38.f at H
 obtain ⟨t0, A2, H⟩ := sqD H
 obtain rfl | rfl := sqt t0
 ·rw [if_pos rfl] at H
  obtain ⟨c4, H⟩ | ⟨c4, H⟩ := sqi2 H
  ·have c4b0 : decide ((l0_2.length : Int) ≤ 8) = true := decide_eq_true c4
   have c4b1 : decide (l0_2.length ≤ 8) = true := decide_eq_true (by omega)
   clear c4
   obtain ⟨t1, A5, H⟩ := sqD H
   obtain rfl := sqo H
   go_enter func60, ntmps60
   go_wp2_with (first | ((with_reducible refine sqd 1 rfl ?_); (try (refine gate_guard (by rfl) ?_; dsimp only)); refine sqx0 w (sqB HB) #[.int .i64 a0_0, .int .i64 a0_1, .slice A0_2 l0_2.length c0_2] 34 fun g0 w6 B0 E0 HB => ?_; have := sqY3 B0) | ((with_reducible refine sqc 70 rfl ?_); refine sqv (some 5) func70 (F3.c k a0_0 a0_1 true _ A2.1) fun w8 hb => ?_; replace B0 := sqT B0 hb; replace HB := sqS (sqB1 HB E0) hb; have := sqY3 B0) | (go_at_call 109; (with_reducible refine (F92.c k _ _ l0_2 777777 t1 _ ?side1 ?side2 A5.1).mono ?_); (case side1 => exact Z35); (case side2 => exact Z36); rintro e w0 ⟨rfl, hb⟩; replace B0 := sqT B0 hb; replace HB := sqS (sqB1 HB E0) hb))
   go_ret
   exact ⟨Z5, sqB1 HB E0⟩
  have c4b0 : decide ((l0_2.length : Int) ≤ 8) = false := decide_eq_false c4
  have c4b1 : decide (l0_2.length ≤ 8) = false := decide_eq_false (by omega)
  clear c4
  obtain rfl := sqo H
  go_enter func60, ntmps60
  go_wp2_with (first | ((with_reducible refine sqd 1 rfl ?_); (try (refine gate_guard (by rfl) ?_; dsimp only)); refine sqx0 w (sqB HB) #[.int .i64 a0_0, .int .i64 a0_1, .slice A0_2 l0_2.length c0_2] 34 fun g0 w1 B0 E0 HB => ?_; have := sqY3 B0) | ((with_reducible refine sqc 70 rfl ?_); refine sqv (some 5) func70 (F3.c k a0_0 a0_1 true _ A2.1) fun w2 hb => ?_; replace B0 := sqT B0 hb; replace HB := sqS (sqB1 HB E0) hb; have := sqY3 B0))
  go_ret
  exact ⟨Z5, sqB1 HB E0⟩
 rw [if_neg sqF] at H
 obtain rfl := sqo H
 go_enter func60, ntmps60
 go_wp2_with (first | ((with_reducible refine sqd 1 rfl ?_); (try (refine gate_guard (by rfl) ?_; dsimp only)); refine sqx0 w (sqB HB) #[.int .i64 a0_0, .int .i64 a0_1, .slice A0_2 l0_2.length c0_2] 34 fun g0 w3 B0 E0 HB => ?_; have := sqY3 B0) | ((with_reducible refine sqc 70 rfl ?_); refine sqv (some 5) func70 (F3.c k a0_0 a0_1 false _ A2.1) fun w4 hb => ?_; replace B0 := sqT B0 hb; replace HB := sqS (sqB1 HB E0) hb))
 go_ret
 exact ⟨Z5, sqB1 HB E0⟩

def F12.f (a0_0 : Int) (a0_1 : Int) (l0_2 : List (S31)) : Option (Int × Int × (List (S31))) := (some (([] : List (S31)) : List (S31))).bind fun y0 => (if y0.length + l0_2.length < 8796093022208 then (some (a0_0, a0_1, (y0 ++ l0_2))) else (none))
def F12.T1 : Bool × List (List Nat × List Nat) := (true, [([], []), ([0], [0]), ([], []), ([], []), ([3], [3]), ([2, 4], [2, 4]), ([1, 5], [1, 5]), ([6, 5, 0, 1, 2, 3, 4, 5, 6], [6])])
def F12.B1 : List Nat := [0, 1, 0, 0, 8, 28, 63, 127]
theorem F12.tab1 : rtab .any (opsOf f76 1) = F12.T1 := by kernel_rfl
theorem F12.bits1 : waitsOk F12.T1.2 F12.B1 = true := by kernel_rfl
theorem F12.c (a0_0 : Int) (a0_1 : Int) (A0_2 : Option Addr) (c0_2 : Nat) (l0_2 : List (S31)) (r1 : Int) (r2 : Int) (r3 : List (S31)) (w : World) (hr0_2 : Kd.C k31 w A0_2 l0_2.length l0_2) (hc0_2 : l0_2.length ≤ c0_2) (H : F12.f a0_0 a0_1 l0_2 = some (r1, r2, r3)) :
  Calls prog 76 #[.agg #[.int .i64 a0_0, .int .i64 a0_1, .slice A0_2 l0_2.length c0_2]] w fun e w' => ∃ v2_ : Value, e = .returned (.agg #[.int .i64 r1, .int .i64 r2, v2_]) ∧ Kd.R k31 31 w' w.heap.size (fun _ => True) v2_ r3 ∧ Below w.heap.size w w' := by
 have hu34 := underlying34
 have hu31 := underlying31
 have HR0_2 := sqa hr0_2
 have HC0_2 := sqa hc0_2
 clear hr0_2 hc0_2
 have HB := sqh w
 unfold F12.f at H
 obtain ⟨y0, hy0⟩ : ∃ y_ : List (S31), y_ = (([] : List (S31))) := ⟨_, rfl⟩
 replace H : (if y0.length + l0_2.length < 8796093022208 then (some (a0_0, a0_1, (y0 ++ l0_2))) else (none)) = some (r1, r2, r3) := sqW hy0 H
 have Ny0 := sqa hy0
 clear hy0
 obtain ⟨c2, H⟩ := sqI H
 have LMc2 := sqa c2
 clear c2
 obtain ⟨y1, hy1⟩ : ∃ y_ : List (S31), y_ = (y0 ++ l0_2) := ⟨_, rfl⟩
 replace H : (some (a0_0, a0_1, y1)) = some (r1, r2, r3) := sqW hy1 H
 have Ny1 := sqa hy1
 clear hy1
 obtain ⟨rfl, rfl, rfl⟩ := sqO3 H
 go_enter func76, ntmps76
 try go_wp2_with (first | ((with_reducible refine sqd 1 rfl ?_); refine sqx0 w (sqB HB) #[.int .i64 a0_0, .int .i64 a0_1, .slice A0_2 l0_2.length c0_2] 34 fun g0 w3 B0 E0 HB => ?_) | ((with_reducible refine sqd 2 rfl ?_); refine sqx1 w (sqB1 HB E0) #[.int .i64 0, .int .i64 0, .slice none 0 0] 34 B0 fun g1 w4 B2 E1 HB N0 N1 B0 => ?_))
 replace B0 := sqa (blk_drew B0.1)
 replace B2 := sqa (blk_drew B2.1)
 replace HB := sqa (below_drew1 HB.1)
 refine start_ (n := 8) (S := fun w' => w'.cell? ⟨g0, 0, none⟩ = some (.int .i64 a0_0) ∧ w'.cell? ⟨g0, 1, none⟩ = some (.int .i64 a0_1) ∧ w'.cell? ⟨g0, 2, none⟩ = some (.slice A0_2 l0_2.length c0_2)) (ds := []) #[false, false, false, false, false, false, false, false] (by kernel_rfl) rfl rfl (sqk1 B0) (fun hHeld => ?_); refine with_tabW F12.tab1 F12.bits1 (fun HT_ HW_ => ?_)
 generalize w4.drew = w5 at B0 B2 HB hHeld ⊢
 refine sqP 0 (some 3) (h := ?_)
 refine sqP 3 (some 6) (h := ?_)
 refine sqQ 1 (some 4) hHeld (h := ?_)
 refine sqQ 4 (some 7) hHeld (h := ?_)
 refine sq1 2 (some 5) (h := fun K hK => ?_)
 refine Kd.R_lit_step k31 _ 31 ?hg (N := 5) ?hd (xs := ([] : List (S31))) (inner := []) (ok := fun _ => True) (okp := fun _ => True) ?hr ?hp (fun _ hk => hk) trivial (Below.refl _ _) (Nat.le_refl _) (by simp) ?_; (case hd => rfl); (case hg => rfl); (case hr => exact Z17); (case hp => exact Z24)
 intro v0 w6 ho7 hb hg_ hnew_
 clear hg_ hnew_
 (first | rw [← Ny0.out] at ho7 | (simp only [Int.reduceToNat] at ho7; rw [← Ny0.out] at ho7))
 have O0 := sqL ho7 (sqB2 HB E0 E1)
 replace B0 := sqT B0 hb
 replace B2 := sqT B2 hb
 replace HB := sqS (sqB2 HB E0 E1) hb
 clear hb ho7
 refine hK.out _ _ (sqk1 B0) (fun hHeld => ?_)
 clear hK K
 refine sqN (some 5) ?_
 refine sq1 5 (some 8) (h := fun K hK => ?_)
 refine Kd.R_append_rows_step k31 (w0 := w) w.heap.size (by rfl) (.tmp 5) (.tmp 7) 32 31 (.agg #[(.int .i64 0), (.int .i64 0)]) 16 rfl underlying32 info31 rfl (by decide) (by omega) v0 y0 l0_2 _ _ _ (fun _ => True) (fun _ => False) rfl rfl ?aO ?aR (fun _ _ h => h) (fun _ h => h.elim) ?aF ?aB ?aS ?aL ?_
 (case aR => exact Z35)
 (case aB => exact (sqB2 HB E0 E1))
 (case aF => exact Z25)
 (case aO => exact (sqR O0))
 (case aS => exact (below_size (sqB2 HB E0 E1)))
 (case aL => exact Z2 LMc2)
 intro v1 w8 ho hb hg hat
 rw [← Ny1.out] at ho
 replace B0 := sqa (blk_grown (sqK B0) hg (Kd.R_ne O0.1 B0.1 (by decide)))
 replace B2 := sqa (blk_grown (sqK B2) hg (Kd.R_ne O0.1 B2.1 (by decide)))
 replace HB := sqa (hb)
 have O1 := sqa (ho)
 clear O0
 clear ho hb hg hat
 obtain ⟨Ao9, co9, eo9⟩ := Kd.R_slice O1.1
 (first | subst eo9 | (injection eo9 with f1_ f2_ f3_; have f4_ := f1_.symm; have f5_ := f3_.symm; clear f1_ f2_ f3_; subst f4_; subst f5_))
 refine hK.out _ _ (sqk1 B0) (fun hHeld => ?_)
 clear hK K
 refine sqN (some 8) ?_
 refine sqP 6 (some 9) (h := ?_)
 refine sq1 7 none (h := fun K hK => ?_)
 have := sqY3 B2
 have := sqn2 N0 N1
 refine skip_ (w1 := ?_) (by rfl) rfl ?_ ?_
 rotate_left
 ·go_simp
  rfl
 refine hK.out _ _ (sql1 N0 hHeld) (fun hHeld => ?_)
 clear hK K
 refine done_ (done_of HT_.out (by kernel_rfl)) ?_
 try go_wp2
 refine sqEr g1 34 #[.int .i64 a0_0, .int .i64 a0_1, .slice Ao9 y1.length co9] (Z102 B2) underlying34 ?_
 exact ⟨_, Z5, by (with_reducible repeat (first | apply Kd.R_alloc | apply Kd.R_drewN | apply Kd.R_drew)); exact Kd.R_mono (sqr3 O1.1 B2.1) (fun _ hk => trivial), sqB2 HB E0 E1⟩

-- given: function 139 (strings_Trim)

def F75.f (a0 : ByteArray) : Option (Bool) := (strings_Trim.f a0 (⟨#[84, 116, 82]⟩ : ByteArray)).bind fun t139 => (some (t139.toList == ([] : List UInt8)))
theorem F75.c (a0 : ByteArray) (r : Bool) (w : World) (H : F75.f a0 = some r) :
  Calls prog 118 #[.string a0] w fun e w' => e = .returned (.bool r) ∧ Below w.heap.size w w' := by
 have HB := sqh w
 unfold F75.f at H
 obtain ⟨t139, A2, H⟩ := sqD H
 obtain rfl := sqo H
 go_enter func118, ntmps118
 go_wp2_with (first | ((with_reducible refine sqc 139 rfl ?_); refine sqv (some 4) func139 (strings_Trim.calls a0 (⟨#[84, 116, 82]⟩ : ByteArray) t139 _ A2.1) fun w3 hb => ?_; replace HB := sqS (sqB HB) hb))
 go_ret
 exact ⟨Z5, sqB HB⟩

def F62.f (a0 : ByteArray) : Option (Bool) := if (a0.size : Int) ≤ 40 then ((F75.f a0).bind fun t0 => (some t0)) else (some false)
theorem F62.c (a0 : ByteArray) (r : Bool) (w : World) (H : F62.f a0 = some r) :
  Calls prog 71 #[.string a0] w fun e w' => e = .returned (.bool r) ∧ Below w.heap.size w w' := by
 have HB := sqh w
 unfold F62.f at H
 obtain ⟨c2, H⟩ | ⟨c2, H⟩ := sqi2 H
 ·have c2b0 : decide ((a0.size : Int) ≤ 40) = true := decide_eq_true c2
  have c2b1 : decide (a0.size ≤ 40) = true := decide_eq_true (by omega)
  clear c2
  obtain ⟨t0, A3, H⟩ := sqD H
  obtain rfl := sqo H
  go_enter func71, ntmps71
  go_wp2_with (first | (go_at_call 118; (with_reducible refine (F75.c a0 t0 _ A3.1).mono ?_); rintro e w4 ⟨rfl, hb⟩; replace HB := sqS (sqB HB) hb))
  go_ret
  exact ⟨Z5, sqB HB⟩
 have c2b0 : decide ((a0.size : Int) ≤ 40) = false := decide_eq_false c2
 have c2b1 : decide (a0.size ≤ 40) = false := decide_eq_false (by omega)
 clear c2
 obtain rfl := sqo H
 go_enter func71, ntmps71
 go_wp2
 go_ret
 exact ⟨Z5, sqB HB⟩

def F61.f (k : Nat) (a0_0 : Int) (a0_1 : Int) (a1 : Int) : Option (Int × Int × Bool) := (F3.f k (wrap64 (a0_0 + (wrap64 (a1 * a0_1)))) a0_1).bind fun t143 => (if t143 = true then (some (wrap64 (a0_0 + (wrap64 (a1 * a0_1))), a0_1, true)) else (some (0, 0, false)))
theorem F61.c (k : Nat) (a0_0 : Int) (a0_1 : Int) (a1 : Int) (r1 : Int) (r2 : Int) (r3 : Bool) (w : World) (H : F61.f k a0_0 a0_1 a1 = some (r1, r2, r3)) :
  Calls prog 119 #[.agg #[.int .i64 a0_0, .int .i64 a0_1], .int .i64 a1] w fun e w' => e = .returned (.tuple #[.agg #[.int .i64 r1, .int .i64 r2], .bool r3]) ∧ Below w.heap.size w w' := by
 have hu31 := underlying31
 have HB := sqh w
 unfold F61.f at H
 obtain ⟨t143, A3, H⟩ := sqD H
 obtain rfl | rfl := sqt t143
 ·rw [if_pos rfl] at H
  obtain ⟨rfl, rfl, rfl⟩ := sqO3 H
  go_enter func119, ntmps119
  go_wp2_with (first | ((with_reducible refine sqd 2 rfl ?_); refine sqx0 w (sqB HB) #[.int .i64 a0_0, .int .i64 a0_1] 31 fun g0 w5 B0 E0 HB => ?_) | ((with_reducible refine sqd 4 rfl ?_); refine sqx1 w (sqB1 HB E0) #[.int .i64 0, .int .i64 0] 31 B0 fun g1 w6 B2 E1 HB N0 N1 B0 => ?_; have := sqn2 N0 N1; have := sqY2 B0) | ((with_reducible refine sqc 70 rfl ?_); refine sqv (some 15) func70 (F3.c k (wrap64 (a0_0 + (wrap64 (a1 * a0_1)))) a0_1 true _ A3.1) fun w9 hb => ?_; replace B0 := sqa (blk_below (g := g0) (o := .cells #[.int .i64 (wrap64 (a0_0 + (wrap64 (a1 * a0_1)))), .int .i64 a0_1] 31 (0, 0)) (by refine sqPut (cs := #[.int .i64 a0_0, .int .i64 a0_1]) ?_ 0; exact sqK B0) hb); replace B2 := sqH N1 B2 hb; replace HB := sqS (sqB2 HB E0 E1) hb; have hcz0 : w9.cell? ⟨g0, 0, none⟩ = some (.int .i64 (wrap64 (a0_0 + (wrap64 (a1 * a0_1))))) := (blk_cell B0.1 0).trans rfl; have hcz1 := sqZ B0 1 (.int .i64 a0_1); have hfz0 := blk_frozen B0.1 0; have hfz1 := blk_frozen B0.1 1; have := sqY2 B2))
  refine sqE g1 31 #[.int .i64 (wrap64 (a0_0 + (wrap64 (a1 * a0_1)))), .int .i64 a0_1] (Z103 B2) underlying31 ?_
  exact ⟨Z5, sqB2 HB E0 E1⟩
 rw [if_neg sqF] at H
 obtain ⟨rfl, rfl, rfl⟩ := sqO3 H
 go_enter func119, ntmps119
 go_wp2_with (first | ((with_reducible refine sqd 2 rfl ?_); refine sqx0 w (sqB HB) #[.int .i64 a0_0, .int .i64 a0_1] 31 fun g0 w0 B0 E0 HB => ?_) | ((with_reducible refine sqd 4 rfl ?_); refine sqx1 w (sqB1 HB E0) #[.int .i64 0, .int .i64 0] 31 B0 fun g1 w1 B2 E1 HB N0 N1 B0 => ?_; have := sqn2 N0 N1; have := sqY2 B0) | ((with_reducible refine sqc 70 rfl ?_); refine sqv (some 15) func70 (F3.c k (wrap64 (a0_0 + (wrap64 (a1 * a0_1)))) a0_1 false _ A3.1) fun w2 hb => ?_; replace B0 := sqa (blk_below (g := g0) (o := .cells #[.int .i64 (wrap64 (a0_0 + (wrap64 (a1 * a0_1)))), .int .i64 a0_1] 31 (0, 0)) (by refine sqPut (cs := #[.int .i64 a0_0, .int .i64 a0_1]) ?_ 0; exact sqK B0) hb); replace B2 := sqH N1 B2 hb; replace HB := sqS (sqB2 HB E0 E1) hb; have := sqY2 B2))
 refine sqE g1 31 #[.int .i64 0, .int .i64 0] (Z12 B2) underlying31 ?_
 exact ⟨Z5, sqB2 HB E0 E1⟩

end Go.Proofs.YtofmlbgfcohhoaaGreatDoor.PFnDeskSay
