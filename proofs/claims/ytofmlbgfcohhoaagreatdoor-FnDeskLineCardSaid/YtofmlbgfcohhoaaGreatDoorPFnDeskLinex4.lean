import Derived.Test.YtofmlbgfcohhoaaGreatDoorPFnDeskLinex0
set_option maxHeartbeats 8000000
set_option maxRecDepth 100000
namespace Go.Proofs.YtofmlbgfcohhoaaGreatDoor.PFnDeskLine
open Go.RowKit Go.Proofs.YtofmlbgfcohhoaaGreatDoorW.PrintWords Go.Proofs.YtofmlbgfcohhoaaGreatDoorW.PrintLast Go.Proofs.YtofmlbgfcohhoaaGreatDoorW.PrintMore Go.Proofs.YtofmlbgfcohhoaaGreatDoor.Lib Go.Proofs.Tryz
attribute [local go_sem] max2_int min2_int max_two min_two max_three min_three max_four min_four
set_option linter.unusedVariables false
set_option linter.unusedSimpArgs false

/-! ### impl_FractionOk: function 69 -/
def impl_FractionOk.f (k : Nat) (a0_0 : Int) (a0_1 : Int) : Option (Bool) := (impl_isFraction.f k a0_0 a0_1).bind fun t0 => (some t0)
theorem impl_FractionOk.mono : ∀ a0 a1 k, LeO (impl_FractionOk.f k a0 a1) (impl_FractionOk.f (k + 1) a0 a1) := by
 intro a0 a1 k
 unfold impl_FractionOk.f
 repeat' (with_reducible first | exact impl_isFraction.mono _ _ _ | exact LeO.refl _ | exact LeO.none _ | refine LeO.ite ?_ ?_ | refine LeO.bind ?_ fun _ => ?_)
theorem impl_FractionOk.calls (k : Nat) (a0_0 : Int) (a0_1 : Int) (r : Bool) (w : World) (H : impl_FractionOk.f k a0_0 a0_1 = some r) :
  Calls prog 69 #[.agg #[.int .i64 a0_0, .int .i64 a0_1]] w fun e w' => e = .returned (.bool r) ∧ Below w.heap.size w w' := by
 have hu31 := underlying31
 have HB := sqh w
 unfold impl_FractionOk.f at H
 obtain ⟨t0, A2, H⟩ := sqD H
 obtain rfl := sqo H
 go_enter func69, ntmps69
 go_wp2_with (first | ((with_reducible refine sqd 1 rfl ?_); refine sqBx w (sqB HB) (cs := #[.int .i64 a0_0, .int .i64 a0_1]) (t := 31) ?_; intro g0 hg w3 B0 E0 HB hb; clear hb hg; obtain ⟨_, _, _, _⟩ := sqY2 B0) | ((with_reducible refine sqc 70 rfl ?_); refine sqC (some 4) func70 #[.agg #[.int .i64 a0_0, .int .i64 a0_1]] ?_; (with_reducible refine (impl_isFraction.calls k a0_0 a0_1 t0 _ A2.1).mono ?_); refine sqV fun w5 hb => ?_; replace B0 := sqT B0 hb; replace HB := sqS (sqB1 HB E0) hb))
 go_ret
 exact ⟨Z5, sqB1 HB E0⟩

/-! ### laws_alive: function 24 -/
def laws_alive.f (k : Nat)  : Option (Bool) := (impl_FractionOk.f k 1 2).bind fun t0 => (if t0 = true then ((impl_FractionOk.f k 2 2).bind fun t1 => (some (!t1))) else (some false))
theorem laws_alive.mono : ∀ k, LeO (laws_alive.f k ) (laws_alive.f (k + 1) ) := by
 intro  k
 unfold laws_alive.f
 repeat' (with_reducible first | exact impl_FractionOk.mono _ _ _ | exact LeO.refl _ | exact LeO.none _ | refine LeO.ite ?_ ?_ | refine LeO.bind ?_ fun _ => ?_)
theorem laws_alive.calls (k : Nat)  (r : Bool) (w : World) (H : laws_alive.f k  = some r) :
  Calls prog 24 #[] w fun e w' => e = .returned (.bool r) ∧ Below w.heap.size w w' := by
 have hu31 := underlying31
 have HB := sqh w
 unfold laws_alive.f at H
 obtain ⟨t0, A1, H⟩ := sqD H
 by_cases c2 : t0 = true
 ·subst c2
  rw [if_pos rfl] at H
  obtain ⟨t1, A3, H⟩ := sqD H
  obtain rfl := sqo H
  go_enter func24, ntmps24
  go_wp2_with (first | ((with_reducible refine sqc 69 rfl ?_); refine sqC (some 2) func69 #[.agg #[.int .i64 1, .int .i64 2]] ?_; (with_reducible refine (impl_FractionOk.calls k 1 2 true _ A1.1).mono ?_); refine sqV fun w4 hb => ?_; replace HB := sqS (sqB HB) hb) | (go_at_call 69; (with_reducible refine (impl_FractionOk.calls k 2 2 t1 _ A3.1).mono ?_); rintro e w5 ⟨rfl, hb⟩; replace HB := sqS (sqB HB) hb))
  go_ret
  exact ⟨Z5, sqB HB⟩
 obtain rfl := sqb c2
 rw [if_neg sqF] at H
 obtain rfl := sqo H
 go_enter func24, ntmps24
 go_wp2_with (first | ((with_reducible refine sqc 69 rfl ?_); refine sqC (some 2) func69 #[.agg #[.int .i64 1, .int .i64 2]] ?_; (with_reducible refine (impl_FractionOk.calls k 1 2 false _ A1.1).mono ?_); refine sqV fun w6 hb => ?_; replace HB := sqS (sqB HB) hb))
 go_ret
 exact ⟨Z5, sqB HB⟩

/-! ### spec_l1In: function 101 -/
def spec_l1In.f (a0 : Int) (a1 : Int) (a2 : Int) : Option (Bool) := if a0 ≥ a1 then (some (decide (a0 ≤ a2))) else (some false)
theorem spec_l1In.calls (a0 : Int) (a1 : Int) (a2 : Int) (r : Bool) (w : World) (H : spec_l1In.f a0 a1 a2 = some r) :
  Calls prog 101 #[.int .i64 a0, .int .i64 a1, .int .i64 a2] w fun e w' => e = .returned (.bool r) ∧ Drawn0 w w' := by
 unfold spec_l1In.f at H
 by_cases c4 : a0 ≥ a1
 ·rw [if_pos c4] at H
  have c4b0 : decide (a1 ≤ a0) = true := decide_eq_true c4
  clear c4
  obtain rfl := sqo H
  go_enter func101, ntmps101
  go_wp2
  go_ret
  exact ⟨Z1, Z15⟩
 rw [if_neg c4] at H
 have c4b0 : decide (a1 ≤ a0) = false := decide_eq_false c4
 clear c4
 obtain rfl := sqo H
 go_enter func101, ntmps101
 go_wp2
 go_ret
 exact ⟨Z1, Z15⟩

/-! ### spec_l1Common: function 121 -/
def spec_l1Common.l0 : Nat → Int → Int → Option (Int)
 | 0, _, _ => none
 | k + 1, x0, x1 => if x1 > 0 then (if x1 = 0 then (none) else (spec_l1Common.l0 k x1 (Int.tmod x0 x1))) else (some x0)
def spec_l1Common.f (k : Nat) (a0 : Int) (a1 : Int) : Option (Int) := spec_l1Common.l0 k (mx a0 (wrap64 (-a0))) (mx a1 (wrap64 (-a1)))
abbrev spec_l1Common.M (k : Nat) : Prop := (∀ y0 y1, LeO (spec_l1Common.l0 k y0 y1) (spec_l1Common.l0 (k + 1) y0 y1))
theorem spec_l1Common.mono_t : ∀ k, spec_l1Common.M k → spec_l1Common.M (k + 1) ∧ ∀ a0 a1, LeO (spec_l1Common.f k a0 a1) (spec_l1Common.f (k + 1) a0 a1) := by
  rintro k ih0
  refine ⟨?_, ?_⟩ <;> (try unfold spec_l1Common.M) <;> intros <;> (first | unfold spec_l1Common.l0 | unfold spec_l1Common.f) <;> repeat' (with_reducible first | exact ih0 _ _ | exact LeO.refl _ | exact LeO.none _ | refine LeO.ite ?_ ?_ | refine LeO.bind ?_ fun _ => ?_)
theorem spec_l1Common.mono_l : ∀ k, spec_l1Common.M k
 | 0 => fun _ _ r h => by simp [spec_l1Common.l0] at h
 | k + 1 => (spec_l1Common.mono_t k (spec_l1Common.mono_l k)).1
theorem spec_l1Common.mono a0 a1 k : LeO (spec_l1Common.f k a0 a1) (spec_l1Common.f (k + 1) a0 a1) := (spec_l1Common.mono_t k (spec_l1Common.mono_l k)).2 a0 a1
theorem spec_l1Common.calls (k : Nat) (a0 : Int) (a1 : Int) (r : Int) (w : World) (H : spec_l1Common.f k a0 a1 = some r) :
  Calls prog 121 #[.int .i64 a0, .int .i64 a1] w fun e w' => e = .returned (.int .i64 r) ∧ Below w.heap.size w w' := by
 have HB := sqh w
 unfold spec_l1Common.f at H
 obtain ⟨ji3, hji3⟩ : ∃ j_ : Int, (mx a0 (wrap64 (-a0))) = j_ := ⟨_, rfl⟩
 replace H : (spec_l1Common.l0 k ji3 (mx a1 (wrap64 (-a1)))) = some r := by first | (rw [hji3] at H; exact H) | (simp only [hji3] at H ⊢; exact H)
 have hji3_ : (if a0 < (wrap64 (-a0)) then (wrap64 (-a0)) else a0) = ji3 := hji3
 obtain ⟨ji4, hji4⟩ : ∃ j_ : Int, (mx a1 (wrap64 (-a1))) = j_ := ⟨_, rfl⟩
 replace H : (spec_l1Common.l0 k ji3 ji4) = some r := by first | (rw [hji4] at H; exact H) | (simp only [hji4] at H ⊢; exact H)
 have hji4_ : (if a1 < (wrap64 (-a1)) then (wrap64 (-a1)) else a1) = ji4 := hji4
 have H' := sqa H
 clear H
 go_enter func121, ntmps121
 go_wp2
 go_loopg [0, 1] k (fun kq v0 v1 w' => ∃ (x0_1 : Int) (x1_1 : Int), v0 = .int .i64 x0_1 ∧ v1 = .int .i64 x1_1 ∧ Aside0 (spec_l1Common.l0 kq x0_1 x1_1 = some r) ∧ Aside0 (kq ≤ k) ∧ Aside0 (Below w.heap.size w w'))
 case atStart => exact ⟨(ji3), (ji4), (by first | rfl | (simp; done) | (simp only [← hji3] <;> (first | rfl | simp)) | (simp [*]; done)), (by first | rfl | (simp; done) | (simp only [← hji4] <;> (first | rfl | simp)) | (simp [*]; done)), H', ⟨Nat.le_refl _⟩, ⟨sqB HB⟩⟩
 case round =>
  clear H'
  obtain ⟨x0_1, x1_1, rfl, rfl, HA, HK1, HB⟩ := hrel
  cases gk with
  | zero => exact absurd HA.out (by simp [spec_l1Common.l0])
  | succ k1 =>
   have H := HA.out
   clear HA
   simp only [spec_l1Common.l0] at H
   by_cases c5 : x1_1 > 0
   ·rw [if_pos c5] at H
    have c5b0 : decide (0 < x1_1) = true := decide_eq_true c5
    clear c5
    by_cases c6 : x1_1 = 0
    ·rw [if_pos c6] at H
     exact absurd H (by simp)
    rw [if_neg c6] at H
    have c6b0 : (x1_1 == 0) = false := sqe0 c6
    have c6b1 : (x1_1 != 0) = true := sqn1 c6
    have H' := sqa H
    clear H
    go_wp2
    go_roundg k1
    case measure => have := HK1.out; omega
    case rel => exact ⟨(x1_1), (Int.tmod x0_1 x1_1), Z1, Z1, H', ⟨Z2 HK1⟩, ⟨sqB HB⟩⟩
   rw [if_neg c5] at H
   have c5b0 : decide (0 < x1_1) = false := decide_eq_false c5
   clear c5
   obtain rfl := sqo H
   go_wp2
   go_ret
   exact ⟨by first | rfl | (simp [errP_none, errP_some] <;> rfl) | (simp only [← hji3, ← hji4]; first | rfl | (simp [errP_none, errP_some] <;> rfl)) | (simp [*, errP_none, errP_some] <;> rfl), sqB HB⟩

/-! ### spec_FractionOk: function 77 -/
def spec_FractionOk.f (k : Nat) (a0_0 : Int) (a0_1 : Int) : Option (Bool) := (spec_l1In.f a0_0 (-1000000) 1000000).bind fun t124 => (if t124 = true then ((spec_l1In.f a0_1 0 1000000).bind fun t0 => (if t0 = true then ((spec_l1Common.f k a0_0 a0_1).bind fun t1 => (if t1 = 1 then (if a0_1 > 0 then (some true) else (some (a0_0 == 1))) else (some false))) else (some false))) else (some false))
theorem spec_FractionOk.mono : ∀ a0 a1 k, LeO (spec_FractionOk.f k a0 a1) (spec_FractionOk.f (k + 1) a0 a1) := by
 intro a0 a1 k
 unfold spec_FractionOk.f
 repeat' (with_reducible first | exact spec_l1Common.mono _ _ _ | exact LeO.refl _ | exact LeO.none _ | refine LeO.ite ?_ ?_ | refine LeO.bind ?_ fun _ => ?_)
theorem spec_FractionOk.calls (k : Nat) (a0_0 : Int) (a0_1 : Int) (r : Bool) (w : World) (H : spec_FractionOk.f k a0_0 a0_1 = some r) :
  Calls prog 77 #[.agg #[.int .i64 a0_0, .int .i64 a0_1]] w fun e w' => e = .returned (.bool r) ∧ Below w.heap.size w w' := by
 have hu31 := underlying31
 have HB := sqh w
 unfold spec_FractionOk.f at H
 obtain ⟨t124, A2, H⟩ := sqD H
 by_cases c3 : t124 = true
 ·subst c3
  rw [if_pos rfl] at H
  obtain ⟨t0, A4, H⟩ := sqD H
  by_cases c5 : t0 = true
  ·subst c5
   rw [if_pos rfl] at H
   obtain ⟨t1, A6, H⟩ := sqD H
   by_cases c7 : t1 = 1
   ·rw [if_pos c7] at H
    have c7b0 : (t1 == 1) = true := sqe1 c7
    have c7b1 : (t1 != 1) = false := sqn0 c7
    clear c7
    by_cases c8 : a0_1 > 0
    ·rw [if_pos c8] at H
     have c8b0 : decide (0 < a0_1) = true := decide_eq_true c8
     clear c8
     obtain rfl := sqo H
     go_enter func77, ntmps77
     go_wp2_with (first | ((with_reducible refine sqd 1 rfl ?_); refine sqBx w (sqB HB) (cs := #[.int .i64 a0_0, .int .i64 a0_1]) (t := 31) ?_; intro g0 hg w9 B0 E0 HB hb; clear hb hg; obtain ⟨_, _, _, _⟩ := sqY2 B0) | ((with_reducible refine sqc 101 rfl ?_); refine sqC (some 5) func101 #[.int .i64 a0_0, .int .i64 (-1000000), .int .i64 1000000] ?_; (with_reducible refine (spec_l1In.calls a0_0 (-1000000) 1000000 true _ A2.1).mono ?_); rintro e w' ⟨rfl, ⟨nd, rfl⟩⟩; refine ⟨_, rfl, ?_⟩) | (go_at_call 101; (with_reducible refine (spec_l1In.calls a0_1 0 1000000 true _ A4.1).mono ?_); rintro e w' ⟨rfl, ⟨nd, rfl⟩⟩) | ((with_reducible refine sqc 121 rfl ?_); refine sqC (some 17) func121 #[.int .i64 a0_0, .int .i64 a0_1] ?_; (with_reducible refine (spec_l1Common.calls k a0_0 a0_1 t1 _ A6.1).mono ?_); refine sqV fun w0 hb => ?_; replace B0 := sqT B0 hb; replace HB := sqS (sqB1 HB E0) hb; obtain ⟨_, _, _, _⟩ := sqY2 B0))
     go_ret
     exact ⟨Z5, sqB1 HB E0⟩
    rw [if_neg c8] at H
    have c8b0 : decide (0 < a0_1) = false := decide_eq_false c8
    clear c8
    obtain rfl := sqo H
    go_enter func77, ntmps77
    go_wp2_with (first | ((with_reducible refine sqd 1 rfl ?_); refine sqBx w (sqB HB) (cs := #[.int .i64 a0_0, .int .i64 a0_1]) (t := 31) ?_; intro g0 hg w1 B0 E0 HB hb; clear hb hg; obtain ⟨_, _, _, _⟩ := sqY2 B0) | ((with_reducible refine sqc 101 rfl ?_); refine sqC (some 5) func101 #[.int .i64 a0_0, .int .i64 (-1000000), .int .i64 1000000] ?_; (with_reducible refine (spec_l1In.calls a0_0 (-1000000) 1000000 true _ A2.1).mono ?_); rintro e w' ⟨rfl, ⟨nd, rfl⟩⟩; refine ⟨_, rfl, ?_⟩) | (go_at_call 101; (with_reducible refine (spec_l1In.calls a0_1 0 1000000 true _ A4.1).mono ?_); rintro e w' ⟨rfl, ⟨nd, rfl⟩⟩) | ((with_reducible refine sqc 121 rfl ?_); refine sqC (some 17) func121 #[.int .i64 a0_0, .int .i64 a0_1] ?_; (with_reducible refine (spec_l1Common.calls k a0_0 a0_1 t1 _ A6.1).mono ?_); refine sqV fun w2 hb => ?_; replace B0 := sqT B0 hb; replace HB := sqS (sqB1 HB E0) hb; obtain ⟨_, _, _, _⟩ := sqY2 B0))
    go_ret
    exact ⟨Z5, sqB1 HB E0⟩
   rw [if_neg c7] at H
   have c7b0 : (t1 == 1) = false := sqe0 c7
   have c7b1 : (t1 != 1) = true := sqn1 c7
   obtain rfl := sqo H
   go_enter func77, ntmps77
   go_wp2_with (first | ((with_reducible refine sqd 1 rfl ?_); refine sqBx w (sqB HB) (cs := #[.int .i64 a0_0, .int .i64 a0_1]) (t := 31) ?_; intro g0 hg w3 B0 E0 HB hb; clear hb hg; obtain ⟨_, _, _, _⟩ := sqY2 B0) | ((with_reducible refine sqc 101 rfl ?_); refine sqC (some 5) func101 #[.int .i64 a0_0, .int .i64 (-1000000), .int .i64 1000000] ?_; (with_reducible refine (spec_l1In.calls a0_0 (-1000000) 1000000 true _ A2.1).mono ?_); rintro e w' ⟨rfl, ⟨nd, rfl⟩⟩; refine ⟨_, rfl, ?_⟩) | (go_at_call 101; (with_reducible refine (spec_l1In.calls a0_1 0 1000000 true _ A4.1).mono ?_); rintro e w' ⟨rfl, ⟨nd, rfl⟩⟩) | ((with_reducible refine sqc 121 rfl ?_); refine sqC (some 17) func121 #[.int .i64 a0_0, .int .i64 a0_1] ?_; (with_reducible refine (spec_l1Common.calls k a0_0 a0_1 t1 _ A6.1).mono ?_); refine sqV fun w4 hb => ?_; replace B0 := sqT B0 hb; replace HB := sqS (sqB1 HB E0) hb))
   go_ret
   exact ⟨Z5, sqB1 HB E0⟩
  obtain rfl := sqb c5
  rw [if_neg sqF] at H
  obtain rfl := sqo H
  go_enter func77, ntmps77
  go_wp2_with (first | ((with_reducible refine sqd 1 rfl ?_); refine sqBx w (sqB HB) (cs := #[.int .i64 a0_0, .int .i64 a0_1]) (t := 31) ?_; intro g0 hg w5 B0 E0 HB hb; clear hb hg; obtain ⟨_, _, _, _⟩ := sqY2 B0) | ((with_reducible refine sqc 101 rfl ?_); refine sqC (some 5) func101 #[.int .i64 a0_0, .int .i64 (-1000000), .int .i64 1000000] ?_; (with_reducible refine (spec_l1In.calls a0_0 (-1000000) 1000000 true _ A2.1).mono ?_); rintro e w' ⟨rfl, ⟨nd, rfl⟩⟩; refine ⟨_, rfl, ?_⟩) | (go_at_call 101; (with_reducible refine (spec_l1In.calls a0_1 0 1000000 false _ A4.1).mono ?_); rintro e w' ⟨rfl, ⟨nd, rfl⟩⟩))
  go_ret
  exact ⟨Z5, sqB1 HB E0⟩
 obtain rfl := sqb c3
 rw [if_neg sqF] at H
 obtain rfl := sqo H
 go_enter func77, ntmps77
 go_wp2_with (first | ((with_reducible refine sqd 1 rfl ?_); refine sqBx w (sqB HB) (cs := #[.int .i64 a0_0, .int .i64 a0_1]) (t := 31) ?_; intro g0 hg w6 B0 E0 HB hb; clear hb hg; obtain ⟨_, _, _, _⟩ := sqY2 B0) | ((with_reducible refine sqc 101 rfl ?_); refine sqC (some 5) func101 #[.int .i64 a0_0, .int .i64 (-1000000), .int .i64 1000000] ?_; (with_reducible refine (spec_l1In.calls a0_0 (-1000000) 1000000 false _ A2.1).mono ?_); rintro e w' ⟨rfl, ⟨nd, rfl⟩⟩; refine ⟨_, rfl, ?_⟩))
 go_ret
 exact ⟨Z5, sqB1 HB E0⟩

/-! ### spec_DeskOk: function 30 -/
def spec_DeskOk.l0 : Nat → Int → Int → Int → List (S31) → Option (Bool)
 | 0, _, _, _, _ => none
 | k + 1, x3, x0, x1, x2 => if x3 < (x2.length : Int) then (if 0 ≤ x3 then ((spec_FractionOk.f k ((rd_T31 x2 x3).f0) ((rd_T31 x2 x3).f1)).bind fun t0 => (if t0 = true then (spec_DeskOk.l0 k (wrap64 (x3 + 1)) x0 x1 x2) else (some false))) else (none)) else ((spec_FractionOk.f k x0 x1).bind fun t1 => (if t1 = true then (some (decide ((x2.length : Int) ≤ 8))) else (some false)))
def spec_DeskOk.f (k : Nat) (a0_0 : Int) (a0_1 : Int) (l0_2 : List (S31)) : Option (Bool) := spec_DeskOk.l0 k 0 a0_0 a0_1 l0_2
abbrev spec_DeskOk.M (k : Nat) : Prop := (∀ y0 y1 y2 y3, LeO (spec_DeskOk.l0 k y0 y1 y2 y3) (spec_DeskOk.l0 (k + 1) y0 y1 y2 y3))
theorem spec_DeskOk.mono_t : ∀ k, spec_DeskOk.M k → spec_DeskOk.M (k + 1) ∧ ∀ a0 a1 a2, LeO (spec_DeskOk.f k a0 a1 a2) (spec_DeskOk.f (k + 1) a0 a1 a2) := by
  rintro k ih0
  refine ⟨?_, ?_⟩ <;> (try unfold spec_DeskOk.M) <;> intros <;> (first | unfold spec_DeskOk.l0 | unfold spec_DeskOk.f) <;> repeat' (with_reducible first | exact ih0 _ _ _ _ | exact spec_FractionOk.mono _ _ _ | exact LeO.refl _ | exact LeO.none _ | refine LeO.ite ?_ ?_ | refine LeO.bind ?_ fun _ => ?_)
theorem spec_DeskOk.mono_l : ∀ k, spec_DeskOk.M k
 | 0 => fun _ _ _ _ r h => by simp [spec_DeskOk.l0] at h
 | k + 1 => (spec_DeskOk.mono_t k (spec_DeskOk.mono_l k)).1
theorem spec_DeskOk.mono a0 a1 a2 k : LeO (spec_DeskOk.f k a0 a1 a2) (spec_DeskOk.f (k + 1) a0 a1 a2) := (spec_DeskOk.mono_t k (spec_DeskOk.mono_l k)).2 a0 a1 a2
theorem spec_DeskOk.calls (k : Nat) (a0_0 : Int) (a0_1 : Int) (A0_2 : Option Addr) (c0_2 : Nat) (l0_2 : List (S31)) (r : Bool) (w : World) (hr0_2 : Kd.C k31 w A0_2 l0_2.length l0_2) (hc0_2 : l0_2.length ≤ c0_2) (H : spec_DeskOk.f k a0_0 a0_1 l0_2 = some r) :
  Calls prog 30 #[.agg #[.int .i64 a0_0, .int .i64 a0_1, .slice A0_2 l0_2.length c0_2]] w fun e w' => e = .returned (.bool r) ∧ Below w.heap.size w w' := by
 have hu34 := underlying34
 have hu31 := underlying31
 have HR0_2 := sqa hr0_2
 have HC0_2 := sqa hc0_2
 clear hr0_2 hc0_2
 have HB := sqh w
 unfold spec_DeskOk.f at H
 have H' := sqa H
 clear H
 go_enter func30, ntmps30
 go_wp2_with (first | ((with_reducible refine sqd 1 rfl ?_); (try (refine gate_guard (by rfl) ?_; dsimp only)); refine sqBx w (sqB HB) (cs := #[.int .i64 a0_0, .int .i64 a0_1, .slice A0_2 l0_2.length c0_2]) (t := 34) ?_; intro g0 hg w2 B0 E0 HB hb; clear hb hg))
 go_loopg [3] k (fun kq v3 w' => ∃ (x3_1 : Int), v3 = .int .i64 x3_1 ∧ Aside0 (spec_DeskOk.l0 kq x3_1 a0_0 a0_1 l0_2 = some r) ∧ Aside0 (kq ≤ k) ∧ Aside0 (w'.heap[g0]? = some (.cells #[.int .i64 a0_0, .int .i64 a0_1, (.slice A0_2 l0_2.length c0_2)] 34 (0, 0))) ∧ Aside0 (Below w.heap.size w w'))
 case atStart => exact ⟨(0), Z1, H', ⟨Nat.le_refl _⟩, ⟨sqK B0⟩, ⟨sqB1 HB E0⟩⟩
 case round =>
  clear H'
  obtain ⟨x3_1, rfl, HA, HK1, B0, HB⟩ := hrel
  cases gk with
  | zero => exact absurd HA.out (by simp [spec_DeskOk.l0])
  | succ k1 =>
   have H := HA.out
   clear HA
   simp only [spec_DeskOk.l0] at H
   by_cases c3 : x3_1 < (l0_2.length : Int)
   ·rw [if_pos c3] at H
    have c3b0 : decide (x3_1 < (l0_2.length : Int)) = true := decide_eq_true c3
    clear c3
    obtain ⟨c4, H⟩ := sqI H
    have c4b0 : decide (0 ≤ x3_1) = true := decide_eq_true c4
    clear c4
    obtain ⟨t0, A5, H⟩ := sqD H
    by_cases c6 : t0 = true
    ·subst c6
     rw [if_pos rfl] at H
     have H' := sqa H
     clear H
     obtain ⟨_, _, _, _, _, _⟩ := sqY3 B0
     have p0 : 0 ≤ (x3_1 : Int) := of_decide_eq_true Z16
     have q0 : x3_1 < (l0_2.length : Int) := of_decide_eq_true Z16
     obtain ⟨ad0, e0, hx0, hx1⟩ := at_T31 HR0_2.1 x3_1 p0 q0
     cases e0
     replace hx0 := (HB.1.cell (World.block_lt_of_cell? w _ hx0)).trans hx0
     replace hx1 := (HB.1.cell (World.block_lt_of_cell? w _ hx1)).trans hx1
     replace p0 := eq_true p0
     replace q0 := eq_true q0
     go_wp2_with (first | ((with_reducible refine sqc 77 rfl ?_); refine sqC (some 16) func77 #[.agg #[.int .i64 ((rd_T31 l0_2 x3_1).f0), .int .i64 ((rd_T31 l0_2 x3_1).f1)]] ?_; (with_reducible refine (spec_FractionOk.calls k1 ((rd_T31 l0_2 x3_1).f0) ((rd_T31 l0_2 x3_1).f1) true _ A5.1).mono ?_); refine sqV fun w8 hb => ?_; replace B0 := sqT B0 hb; replace HB := sqS (sqB1 HB E0) hb))
     go_roundg k1
     case measure => have := HK1.out; omega
     case rel => exact ⟨(wrap64 (x3_1 + 1)), Z1, H', ⟨Z2 HK1⟩, ⟨sqK B0⟩, ⟨sqB1 HB E0⟩⟩
    obtain rfl := sqb c6
    rw [if_neg sqF] at H
    obtain rfl := sqo H
    obtain ⟨_, _, _, _, _, _⟩ := sqY3 B0
    have p0 : 0 ≤ (x3_1 : Int) := of_decide_eq_true Z16
    have q0 : x3_1 < (l0_2.length : Int) := of_decide_eq_true Z16
    obtain ⟨ad0, e0, hx0, hx1⟩ := at_T31 HR0_2.1 x3_1 p0 q0
    cases e0
    replace hx0 := (HB.1.cell (World.block_lt_of_cell? w _ hx0)).trans hx0
    replace hx1 := (HB.1.cell (World.block_lt_of_cell? w _ hx1)).trans hx1
    replace p0 := eq_true p0
    replace q0 := eq_true q0
    go_wp2_with (first | ((with_reducible refine sqc 77 rfl ?_); refine sqC (some 16) func77 #[.agg #[.int .i64 ((rd_T31 l0_2 x3_1).f0), .int .i64 ((rd_T31 l0_2 x3_1).f1)]] ?_; (with_reducible refine (spec_FractionOk.calls k1 ((rd_T31 l0_2 x3_1).f0) ((rd_T31 l0_2 x3_1).f1) false _ A5.1).mono ?_); refine sqV fun w0 hb => ?_; replace B0 := sqT B0 hb; replace HB := sqS (sqB1 HB E0) hb))
    go_ret
    exact ⟨Z5, sqB1 HB E0⟩
   rw [if_neg c3] at H
   have c3b0 : decide (x3_1 < (l0_2.length : Int)) = false := decide_eq_false c3
   clear c3
   obtain ⟨t1, A0, H⟩ := sqD H
   by_cases c0 : t1 = true
   ·subst c0
    rw [if_pos rfl] at H
    obtain rfl := sqo H
    obtain ⟨_, _, _, _, _, _⟩ := sqY3 B0
    go_wp2_with (first | ((with_reducible refine sqc 77 rfl ?_); refine sqC (some 20) func77 #[.agg #[.int .i64 a0_0, .int .i64 a0_1]] ?_; (with_reducible refine (spec_FractionOk.calls k1 a0_0 a0_1 true _ A0.1).mono ?_); refine sqV fun w1 hb => ?_; replace B0 := sqT B0 hb; replace HB := sqS (sqB1 HB E0) hb; obtain ⟨_, _, _, _, _, _⟩ := sqY3 B0))
    go_ret
    exact ⟨Z5, sqB1 HB E0⟩
   obtain rfl := sqb c0
   rw [if_neg sqF] at H
   obtain rfl := sqo H
   obtain ⟨_, _, _, _, _, _⟩ := sqY3 B0
   go_wp2_with (first | ((with_reducible refine sqc 77 rfl ?_); refine sqC (some 20) func77 #[.agg #[.int .i64 a0_0, .int .i64 a0_1]] ?_; (with_reducible refine (spec_FractionOk.calls k1 a0_0 a0_1 false _ A0.1).mono ?_); refine sqV fun w3 hb => ?_; replace B0 := sqT B0 hb; replace HB := sqS (sqB1 HB E0) hb))
   go_ret
   exact ⟨Z5, sqB1 HB E0⟩

/-! ### laws_noDesk: function 31 -/
def laws_noDesk.f (k : Nat) (a0_0 : Int) (a0_1 : Int) (l0_2 : List (S31)) : Option (Bool) := (laws_sameDesk.f k a0_0 a0_1 l0_2 0 0 ([] : List (S31))).bind fun t0 => (some t0)
theorem laws_noDesk.mono : ∀ a0 a1 a2 k, LeO (laws_noDesk.f k a0 a1 a2) (laws_noDesk.f (k + 1) a0 a1 a2) := by
 intro a0 a1 a2 k
 unfold laws_noDesk.f
 repeat' (with_reducible first | exact laws_sameDesk.mono _ _ _ _ _ _ _ | exact LeO.refl _ | exact LeO.none _ | refine LeO.ite ?_ ?_ | refine LeO.bind ?_ fun _ => ?_)
theorem laws_noDesk.calls (k : Nat) (a0_0 : Int) (a0_1 : Int) (A0_2 : Option Addr) (c0_2 : Nat) (l0_2 : List (S31)) (r : Bool) (w : World) (hr0_2 : Kd.C k31 w A0_2 l0_2.length l0_2) (hc0_2 : l0_2.length ≤ c0_2) (H : laws_noDesk.f k a0_0 a0_1 l0_2 = some r) :
  Calls prog 31 #[.agg #[.int .i64 a0_0, .int .i64 a0_1, .slice A0_2 l0_2.length c0_2]] w fun e w' => e = .returned (.bool r) ∧ Below w.heap.size w w' := by
 have hu34 := underlying34
 have HR0_2 := sqa hr0_2
 have HC0_2 := sqa hc0_2
 clear hr0_2 hc0_2
 have HB := sqh w
 unfold laws_noDesk.f at H
 obtain ⟨t0, A2, H⟩ := sqD H
 obtain rfl := sqo H
 go_enter func31, ntmps31
 go_wp2_with (first | ((with_reducible refine sqd 1 rfl ?_); refine sqBx w (sqB HB) (cs := #[.int .i64 a0_0, .int .i64 a0_1, .slice A0_2 l0_2.length c0_2]) (t := 34) ?_; intro g0 hg w3 B0 E0 HB hb; clear hb hg; obtain ⟨_, _, _, _, _, _⟩ := sqY3 B0) | ((with_reducible refine sqc 22 rfl ?_); refine sqC (some 5) func22 #[.agg #[.int .i64 a0_0, .int .i64 a0_1, .slice A0_2 l0_2.length c0_2], .agg #[.int .i64 0, .int .i64 0, .slice none 0 0]] ?_; (refine (laws_sameDesk.calls k a0_0 a0_1 _ _ l0_2 0 0 _ _ ([] : List (S31)) t0 _ ?side1 ?side2 ?side3 ?side4 A2.1).mono ?_); (case side1 => exact Z34); (case side2 => exact Z35); (case side3 => exact Kd.C_nil _ _); (case side4 => exact Nat.le_refl _); refine sqV fun w5 hb => ?_; replace B0 := sqT B0 hb; replace HB := sqS (sqB1 HB E0) hb))
 go_ret
 exact ⟨Z5, sqB1 HB E0⟩

/-! ### impl_copyDesk: function 76 -/
def impl_copyDesk.f (a0_0 : Int) (a0_1 : Int) (l0_2 : List (S31)) : Option (Int × Int × (List (S31))) := (some (([] : List (S31)) : List (S31))).bind fun y0 => (if y0.length + l0_2.length < 8796093022208 then (some (a0_0, a0_1, (y0 ++ l0_2))) else (none))
def impl_copyDesk.T1 : Bool × List (List Nat × List Nat) := (true, [([], []), ([0], [0]), ([], []), ([], []), ([3], [3]), ([2, 4], [2, 4]), ([1, 5], [1, 5]), ([6, 5, 0, 1, 2, 3, 4, 5, 6], [6])])
def impl_copyDesk.B1 : List Nat := [0, 1, 0, 0, 8, 28, 63, 127]
theorem impl_copyDesk.tab1 : rtab .any (opsOf f76 1) = impl_copyDesk.T1 := by kernel_rfl
theorem impl_copyDesk.bits1 : waitsOk impl_copyDesk.T1.2 impl_copyDesk.B1 = true := by kernel_rfl
theorem impl_copyDesk.calls (a0_0 : Int) (a0_1 : Int) (A0_2 : Option Addr) (c0_2 : Nat) (l0_2 : List (S31)) (r1 : Int) (r2 : Int) (r3 : List (S31)) (w : World) (hr0_2 : Kd.C k31 w A0_2 l0_2.length l0_2) (hc0_2 : l0_2.length ≤ c0_2) (H : impl_copyDesk.f a0_0 a0_1 l0_2 = some (r1, r2, r3)) :
  Calls prog 76 #[.agg #[.int .i64 a0_0, .int .i64 a0_1, .slice A0_2 l0_2.length c0_2]] w fun e w' => ∃ v2_ : Value, e = .returned (.agg #[.int .i64 r1, .int .i64 r2, v2_]) ∧ Kd.R k31 31 w' w.heap.size (fun _ => True) v2_ r3 ∧ Below w.heap.size w w' := by
 have hu34 := underlying34
 have hu31 := underlying31
 have HR0_2 := sqa hr0_2
 have HC0_2 := sqa hc0_2
 clear hr0_2 hc0_2
 have HB := sqh w
 unfold impl_copyDesk.f at H
 obtain ⟨y0, hy0⟩ : ∃ y_ : List (S31), y_ = (([] : List (S31))) := ⟨_, rfl⟩
 replace H : (if y0.length + l0_2.length < 8796093022208 then (some (a0_0, a0_1, (y0 ++ l0_2))) else (none)) = some (r1, r2, r3) := sqW hy0 H
 have Ny0 := sqa hy0
 clear hy0
 obtain ⟨c2, H⟩ := sqI H
 have LMc2 := sqa c2
 clear c2
 obtain ⟨y1, hy1⟩ : ∃ y_ : List (S31), y_ = (y0 ++ l0_2) := ⟨_, rfl⟩
 replace H : (some (a0_0, a0_1, y1)) = some (r1, r2, r3) := sqW hy1 H
 have Ny1 := sqa hy1
 clear hy1
 obtain ⟨rfl, rfl, rfl⟩ := sqO3 H
 go_enter func76, ntmps76
 try go_wp2_with (first | ((with_reducible refine sqd 1 rfl ?_); refine sqBx w (sqB HB) (cs := #[.int .i64 a0_0, .int .i64 a0_1, .slice A0_2 l0_2.length c0_2]) (t := 34) ?_; intro g0 hg w3 B0 E0 HB hb; clear hb hg) | ((with_reducible refine sqd 2 rfl ?_); refine sqBx w (sqB1 HB E0) (cs := #[.int .i64 0, .int .i64 0, .slice none 0 0]) (t := 34) ?_; intro g1 hg w4 B2 E1 HB hb; obtain ⟨N0, N1⟩ := sqM hg B0; replace B0 := sqT B0 hb; clear hb hg))
 replace B0 := sqa (blk_drew B0.1)
 replace B2 := sqa (blk_drew B2.1)
 replace HB := sqa (below_drew1 HB.1)
 refine start_ (n := 8) (S := fun w' => w'.cell? ⟨g0, 0, none⟩ = some (.int .i64 a0_0) ∧ w'.cell? ⟨g0, 1, none⟩ = some (.int .i64 a0_1) ∧ w'.cell? ⟨g0, 2, none⟩ = some (.slice A0_2 l0_2.length c0_2)) (ds := []) #[false, false, false, false, false, false, false, false] (by kernel_rfl) rfl rfl (sqk1 B0) (fun hHeld => ?_); refine with_tabW impl_copyDesk.tab1 impl_copyDesk.bits1 (fun HT_ HW_ => ?_)
 generalize w4.drew = w5 at B0 B2 HB hHeld ⊢
 refine sqP 0 (some 3) (h := ?_)
 refine sqP 3 (some 6) (h := ?_)
 refine sqQ 1 (some 4) hHeld (h := ?_)
 refine sqQ 4 (some 7) hHeld (h := ?_)
 refine sq1 2 (some 5) (h := fun K hK => ?_)
 refine Kd.R_lit_step k31 _ 31 ?hg (N := 5) ?hd (xs := ([] : List (S31))) (inner := []) (ok := fun _ => True) (okp := fun _ => True) ?hr ?hp (fun _ hk => hk) trivial (Below.refl _ _) (Nat.le_refl _) (by simp) ?_; (case hd => rfl); (case hg => rfl); (case hr => exact Z17); (case hp => exact Z23)
 intro v0 w6 ho7 hb hg_ hnew_
 clear hg_ hnew_
 (first | rw [← Ny0.out] at ho7 | (simp only [Int.reduceToNat] at ho7; rw [← Ny0.out] at ho7))
 have O0 := sqL ho7 (sqB2 HB E0 E1)
 replace B0 := sqT B0 hb
 replace B2 := sqT B2 hb
 replace HB := sqS (sqB2 HB E0 E1) hb
 clear hb ho7
 refine hK.out _ _ (sqk1 B0) (fun hHeld => ?_)
 clear hK K
 refine sqN (some 5) ?_
 refine sq1 5 (some 8) (h := fun K hK => ?_)
 refine Kd.R_append_rows_step k31 (w0 := w) w.heap.size (by rfl) (.tmp 5) (.tmp 7) 32 31 (.agg #[(.int .i64 0), (.int .i64 0)]) 16 rfl underlying32 info31 rfl (by decide) (by omega) v0 y0 l0_2 _ _ _ (fun _ => True) (fun _ => False) rfl rfl ?aO ?aR (fun _ _ h => h) (fun _ h => h.elim) ?aF ?aB ?aS ?aL ?_
 (case aR => exact Z34)
 (case aB => exact (sqB2 HB E0 E1))
 (case aF => exact Z24)
 (case aO => exact (sqR O0))
 (case aS => exact (below_size (sqB2 HB E0 E1)))
 (case aL => exact Z2 LMc2)
 intro v139 w8 ho hb hg hat
 rw [← Ny1.out] at ho
 replace B0 := sqa (blk_grown (sqK B0) hg (Kd.R_ne O0.1 B0.1 (by decide)))
 replace B2 := sqa (blk_grown (sqK B2) hg (Kd.R_ne O0.1 B2.1 (by decide)))
 replace HB := sqa (hb)
 have O1 := sqa (ho)
 clear O0
 clear ho hb hg hat
 obtain ⟨Ao9, co9, eo9⟩ := Kd.R_slice O1.1
 (first | subst eo9 | (injection eo9 with f1_ f2_ f3_; have f4_ := f1_.symm; have f5_ := f3_.symm; clear f1_ f2_ f3_; subst f4_; subst f5_))
 refine hK.out _ _ (sqk1 B0) (fun hHeld => ?_)
 clear hK K
 refine sqN (some 8) ?_
 refine sqP 6 (some 9) (h := ?_)
 refine sq1 7 none (h := fun K hK => ?_)
 obtain ⟨_, _, _, _, _, _⟩ := sqY3 B2
 have := N0.1
 have := N1.1
 refine skip_ (w1 := ?_) (by rfl) rfl ?_ ?_
 rotate_left
 ·go_simp
  rfl
 refine hK.out _ _ (sql1 N0 hHeld) (fun hHeld => ?_)
 clear hK K
 refine done_ (done_of HT_.out (by kernel_rfl)) ?_
 try go_wp2
 refine sqEr g1 34 #[.int .i64 a0_0, .int .i64 a0_1, .slice Ao9 y1.length co9] (Z89 B2) underlying34 ?_
 exact ⟨_, Z5, by (with_reducible repeat (first | apply Kd.R_alloc | apply Kd.R_drewN | apply Kd.R_drew)); exact Kd.R_mono (sqr3 O1.1 B2.1) (fun _ hk => trivial), sqB2 HB E0 E1⟩

-- given: function 139 (strings_Trim)

/-! ### impl_areMoves: function 118 -/
def impl_areMoves.f (a0 : ByteArray) : Option (Bool) := (strings_Trim.f a0 (⟨#[84, 116, 82]⟩ : ByteArray)).bind fun t0 => (some (t0.toList == ([] : List UInt8)))
theorem impl_areMoves.calls (a0 : ByteArray) (r : Bool) (w : World) (H : impl_areMoves.f a0 = some r) :
  Calls prog 118 #[.string a0] w fun e w' => e = .returned (.bool r) ∧ Below w.heap.size w w' := by
 have HB := sqh w
 unfold impl_areMoves.f at H
 obtain ⟨t0, A2, H⟩ := sqD H
 obtain rfl := sqo H
 go_enter func118, ntmps118
 go_wp2_with (first | ((with_reducible refine sqc 139 rfl ?_); refine sqC (some 4) func139 #[.string a0, .string (⟨#[84, 116, 82]⟩ : ByteArray)] ?_; (with_reducible refine (strings_Trim.calls a0 (⟨#[84, 116, 82]⟩ : ByteArray) t0 _ A2.1).mono ?_); refine sqV fun w3 hb => ?_; replace HB := sqS (sqB HB) hb))
 go_ret
 exact ⟨Z5, sqB HB⟩

/-! ### impl_isDance: function 71 -/
def impl_isDance.f (a0 : ByteArray) : Option (Bool) := if (a0.size : Int) ≤ 40 then ((impl_areMoves.f a0).bind fun t0 => (some t0)) else (some false)
theorem impl_isDance.calls (a0 : ByteArray) (r : Bool) (w : World) (H : impl_isDance.f a0 = some r) :
  Calls prog 71 #[.string a0] w fun e w' => e = .returned (.bool r) ∧ Below w.heap.size w w' := by
 have HB := sqh w
 unfold impl_isDance.f at H
 by_cases c2 : (a0.size : Int) ≤ 40
 ·rw [if_pos c2] at H
  have c2b0 : decide ((a0.size : Int) ≤ 40) = true := decide_eq_true c2
  have c2b1 : decide (a0.size ≤ 40) = true := decide_eq_true (by omega)
  clear c2
  obtain ⟨t0, A3, H⟩ := sqD H
  obtain rfl := sqo H
  go_enter func71, ntmps71
  go_wp2_with (first | (go_at_call 118; (with_reducible refine (impl_areMoves.calls a0 t0 _ A3.1).mono ?_); rintro e w4 ⟨rfl, hb⟩; replace HB := sqS (sqB HB) hb))
  go_ret
  exact ⟨Z5, sqB HB⟩
 rw [if_neg c2] at H
 have c2b0 : decide ((a0.size : Int) ≤ 40) = false := decide_eq_false c2
 have c2b1 : decide (a0.size ≤ 40) = false := decide_eq_false (by omega)
 clear c2
 obtain rfl := sqo H
 go_enter func71, ntmps71
 go_wp2
 go_ret
 exact ⟨Z5, sqB HB⟩

/-! ### impl_plus: function 119 -/
def impl_plus.f (k : Nat) (a0_0 : Int) (a0_1 : Int) (a1 : Int) : Option (Int × Int × Bool) := (impl_isFraction.f k (wrap64 (a0_0 + (wrap64 (a1 * a0_1)))) a0_1).bind fun t145 => (if t145 = true then (some (wrap64 (a0_0 + (wrap64 (a1 * a0_1))), a0_1, true)) else (some (0, 0, false)))
theorem impl_plus.mono : ∀ a0 a1 a2 k, LeO (impl_plus.f k a0 a1 a2) (impl_plus.f (k + 1) a0 a1 a2) := by
 intro a0 a1 a2 k
 unfold impl_plus.f
 repeat' (with_reducible first | exact impl_isFraction.mono _ _ _ | exact LeO.refl _ | exact LeO.none _ | refine LeO.ite ?_ ?_ | refine LeO.bind ?_ fun _ => ?_)
theorem impl_plus.calls (k : Nat) (a0_0 : Int) (a0_1 : Int) (a1 : Int) (r1 : Int) (r2 : Int) (r3 : Bool) (w : World) (H : impl_plus.f k a0_0 a0_1 a1 = some (r1, r2, r3)) :
  Calls prog 119 #[.agg #[.int .i64 a0_0, .int .i64 a0_1], .int .i64 a1] w fun e w' => e = .returned (.tuple #[.agg #[.int .i64 r1, .int .i64 r2], .bool r3]) ∧ Below w.heap.size w w' := by
 have hu31 := underlying31
 have HB := sqh w
 unfold impl_plus.f at H
 obtain ⟨t145, A3, H⟩ := sqD H
 by_cases c4 : t145 = true
 ·subst c4
  rw [if_pos rfl] at H
  obtain ⟨rfl, rfl, rfl⟩ := sqO3 H
  go_enter func119, ntmps119
  go_wp2_with (first | ((with_reducible refine sqd 2 rfl ?_); refine sqBx w (sqB HB) (cs := #[.int .i64 a0_0, .int .i64 a0_1]) (t := 31) ?_; intro g0 hg w5 B0 E0 HB hb; clear hb hg) | ((with_reducible refine sqd 4 rfl ?_); refine sqBx w (sqB1 HB E0) (cs := #[.int .i64 0, .int .i64 0]) (t := 31) ?_; intro g1 hg w6 B2 E1 HB hb; obtain ⟨N0, N1⟩ := sqM hg B0; replace B0 := sqT B0 hb; clear hb hg; have := N0.1; have := N1.1; obtain ⟨_, _, _, _⟩ := sqY2 B0) | ((with_reducible refine sqc 70 rfl ?_); refine sqC (some 15) func70 #[.agg #[.int .i64 (wrap64 (a0_0 + (wrap64 (a1 * a0_1)))), .int .i64 a0_1]] ?_; (with_reducible refine (impl_isFraction.calls k (wrap64 (a0_0 + (wrap64 (a1 * a0_1)))) a0_1 true _ A3.1).mono ?_); refine sqV fun w9 hb => ?_; replace B0 := sqa (blk_below (g := g0) (o := .cells #[.int .i64 (wrap64 (a0_0 + (wrap64 (a1 * a0_1)))), .int .i64 a0_1] 31 (0, 0)) (by refine sqPut (cs := #[.int .i64 a0_0, .int .i64 a0_1]) ?_ 0; exact sqK B0) hb); replace B2 := sqH N1 B2 hb; replace HB := sqS (sqB2 HB E0 E1) hb; have hcz0 : w9.cell? ⟨g0, 0, none⟩ = some (.int .i64 (wrap64 (a0_0 + (wrap64 (a1 * a0_1))))) := (blk_cell B0.1 0).trans rfl; have hcz1 := sqZ B0 1 (.int .i64 a0_1); have hfz0 := blk_frozen B0.1 0; have hfz1 := blk_frozen B0.1 1; obtain ⟨_, _, _, _⟩ := sqY2 B2))
  refine sqE g1 31 #[.int .i64 (wrap64 (a0_0 + (wrap64 (a1 * a0_1)))), .int .i64 a0_1] (Z90 B2) underlying31 ?_
  exact ⟨Z5, sqB2 HB E0 E1⟩
 obtain rfl := sqb c4
 rw [if_neg sqF] at H
 obtain ⟨rfl, rfl, rfl⟩ := sqO3 H
 go_enter func119, ntmps119
 go_wp2_with (first | ((with_reducible refine sqd 2 rfl ?_); refine sqBx w (sqB HB) (cs := #[.int .i64 a0_0, .int .i64 a0_1]) (t := 31) ?_; intro g0 hg w0 B0 E0 HB hb; clear hb hg) | ((with_reducible refine sqd 4 rfl ?_); refine sqBx w (sqB1 HB E0) (cs := #[.int .i64 0, .int .i64 0]) (t := 31) ?_; intro g1 hg w1 B2 E1 HB hb; obtain ⟨N0, N1⟩ := sqM hg B0; replace B0 := sqT B0 hb; clear hb hg; have := N0.1; have := N1.1; obtain ⟨_, _, _, _⟩ := sqY2 B0) | ((with_reducible refine sqc 70 rfl ?_); refine sqC (some 15) func70 #[.agg #[.int .i64 (wrap64 (a0_0 + (wrap64 (a1 * a0_1)))), .int .i64 a0_1]] ?_; (with_reducible refine (impl_isFraction.calls k (wrap64 (a0_0 + (wrap64 (a1 * a0_1)))) a0_1 false _ A3.1).mono ?_); refine sqV fun w2 hb => ?_; replace B0 := sqa (blk_below (g := g0) (o := .cells #[.int .i64 (wrap64 (a0_0 + (wrap64 (a1 * a0_1)))), .int .i64 a0_1] 31 (0, 0)) (by refine sqPut (cs := #[.int .i64 a0_0, .int .i64 a0_1]) ?_ 0; exact sqK B0) hb); replace B2 := sqH N1 B2 hb; replace HB := sqS (sqB2 HB E0 E1) hb; obtain ⟨_, _, _, _⟩ := sqY2 B2))
 refine sqE g1 31 #[.int .i64 0, .int .i64 0] (Z12 B2) underlying31 ?_
 exact ⟨Z5, sqB2 HB E0 E1⟩
/-! ### impl_lowest: function 120 -/
def impl_lowest.f (k : Nat) (a0 : Int) (a1 : Int) : Option (Int × Int) := (impl_gcd.f k a0 a1).bind fun t147 => (if a1 < 0 then (if (wrap64 (-t147)) = 0 then (none) else (some (wrap64 (Int.tdiv a0 (wrap64 (-t147))), wrap64 (Int.tdiv a1 (wrap64 (-t147)))))) else (if a1 = 0 then (if a0 < 0 then (if (wrap64 (-t147)) = 0 then (none) else (some (wrap64 (Int.tdiv a0 (wrap64 (-t147))), wrap64 (Int.tdiv a1 (wrap64 (-t147)))))) else (if t147 = 0 then (none) else (some (wrap64 (Int.tdiv a0 t147), wrap64 (Int.tdiv a1 t147))))) else (if t147 = 0 then (none) else (some (wrap64 (Int.tdiv a0 t147), wrap64 (Int.tdiv a1 t147))))))
theorem impl_lowest.mono : ∀ a0 a1 k, LeO (impl_lowest.f k a0 a1) (impl_lowest.f (k + 1) a0 a1) := by
 intro a0 a1 k
 unfold impl_lowest.f
 repeat' (with_reducible first | exact impl_gcd.mono _ _ _ | exact LeO.refl _ | exact LeO.none _ | refine LeO.ite ?_ ?_ | refine LeO.bind ?_ fun _ => ?_)
def impl_lowest.T4 : Bool × List (List Nat × List Nat) := (true, [([], []), ([], []), ([0, 1], [0, 1]), ([], []), ([], []), ([3, 4], [3, 4]), ([2, 5], [2, 5]), ([6, 0, 1, 2, 3, 4, 5, 6], [6])])
def impl_lowest.B4 : List Nat := [0, 0, 3, 0, 0, 24, 63, 127]
theorem impl_lowest.tab4 : rtab .any (opsOf f120 4) = impl_lowest.T4 := by kernel_rfl
theorem impl_lowest.bits4 : waitsOk impl_lowest.T4.2 impl_lowest.B4 = true := by kernel_rfl
theorem impl_lowest.calls (k : Nat) (a0 : Int) (a1 : Int) (r1 : Int) (r2 : Int) (w : World) (H : impl_lowest.f k a0 a1 = some (r1, r2)) :
  Calls prog 120 #[.int .i64 a0, .int .i64 a1] w fun e w' => e = .returned (.agg #[.int .i64 r1, .int .i64 r2]) ∧ Below w.heap.size w w' := by
 have hu31 := underlying31
 have HB := sqh w
 unfold impl_lowest.f at H
 obtain ⟨t147, A3, H⟩ := sqD H
 by_cases c4 : a1 < 0
 ·rw [if_pos c4] at H
  have c4b0 : decide (a1 < 0) = true := decide_eq_true c4
  clear c4
  by_cases c5 : (wrap64 (-t147)) = 0
  ·rw [if_pos c5] at H
   exact absurd H (by simp)
  rw [if_neg c5] at H
  have c5b0 : ((wrap64 (-t147)) == 0) = false := sqe0 c5
  have c5b1 : ((wrap64 (-t147)) != 0) = true := sqn1 c5
  obtain ⟨rfl, rfl⟩ := sqO2 H
  go_enter func120, ntmps120
  try go_wp2_with (first | ((with_reducible refine sqd 4 rfl ?_); refine sqBx w (sqB HB) (cs := #[.int .i64 0, .int .i64 0]) (t := 31) ?_; intro g0 hg w6 B0 E0 HB hb; clear hb hg) | ((with_reducible refine sqc 117 rfl ?_); refine sqC (some 8) func117 #[.int .i64 a0, .int .i64 a1] ?_; (with_reducible refine (impl_gcd.calls k a0 a1 t147 _ A3.1).mono ?_); refine sqV fun w7 hb => ?_; replace B0 := sqT B0 hb; replace HB := sqS (sqB1 HB E0) hb))
  replace B0 := sqa (blk_drew B0.1)
  replace HB := sqa (below_drew1 HB.1)
  refine start_ (n := 8) (S := fun w' => True) (ds := []) #[false, false, false, false, false, false, false, false] (by kernel_rfl) rfl rfl trivial (fun hHeld => ?_); refine with_tabW impl_lowest.tab4 impl_lowest.bits4 (fun HT_ HW_ => ?_)
  generalize w7.drew = w8 at B0 HB hHeld ⊢
  refine sqP 0 (some 21) (h := ?_)
  refine sqP 1 (some 22) (h := ?_)
  refine sqP 2 (some 23) (h := ?_)
  refine sqP 3 (some 24) (h := ?_)
  refine sqP 4 (some 25) (h := ?_)
  refine sqP 5 (some 26) (h := ?_)
  refine sqP 6 (some 27) (h := ?_)
  refine sq1 7 none (h := fun K hK => ?_)
  obtain ⟨_, _, _, _⟩ := sqY2 B0
  refine skip_ (w1 := ?_) (by rfl) rfl ?_ ?_
  rotate_left
  ·go_simp
   rfl
  refine hK.out _ _ trivial (fun hHeld => ?_)
  clear hK K
  refine done_ (done_of HT_.out (by kernel_rfl)) ?_
  try go_wp2
  refine sqEr g0 31 #[.int .i64 (wrap64 (Int.tdiv a0 (wrap64 (-t147)))), .int .i64 (wrap64 (Int.tdiv a1 (wrap64 (-t147))))] (Z91 B0) underlying31 ?_
  exact ⟨Z5, sqB1 HB E0⟩
 rw [if_neg c4] at H
 have c4b0 : decide (a1 < 0) = false := decide_eq_false c4
 clear c4
 by_cases c0 : a1 = 0
 ·rw [if_pos c0] at H
  have c1 := sqe1 c0
  have c2 := sqn0 c0
  clear c0
  by_cases c3 : a0 < 0
  ·rw [if_pos c3] at H
   have c6 : decide (a0 < 0) = true := decide_eq_true c3
   clear c3
   by_cases c7 : (wrap64 (-t147)) = 0
   ·rw [if_pos c7] at H
    exact absurd H (by simp)
   rw [if_neg c7] at H
   have c8 := sqe0 c7
   have c9 := sqn1 c7
   obtain ⟨rfl, rfl⟩ := sqO2 H
   go_enter func120, ntmps120
   try go_wp2_with (first | ((with_reducible refine sqd 4 rfl ?_); refine sqBx w (sqB HB) (cs := #[.int .i64 0, .int .i64 0]) (t := 31) ?_; intro g0 hg w0 B0 E0 HB hb; clear hb hg) | ((with_reducible refine sqc 117 rfl ?_); refine sqC (some 8) func117 #[.int .i64 a0, .int .i64 a1] ?_; (with_reducible refine (impl_gcd.calls k a0 a1 t147 _ A3.1).mono ?_); refine sqV fun w2 hb => ?_; replace B0 := sqT B0 hb; replace HB := sqS (sqB1 HB E0) hb))
   replace B0 := sqa (blk_drew B0.1)
   replace HB := sqa (below_drew1 HB.1)
   refine start_ (n := 8) (S := fun w' => True) (ds := []) #[false, false, false, false, false, false, false, false] (by kernel_rfl) rfl rfl trivial (fun hHeld => ?_); refine with_tabW impl_lowest.tab4 impl_lowest.bits4 (fun HT_ HW_ => ?_)
   generalize w2.drew = w3 at B0 HB hHeld ⊢
   refine sqP 0 (some 21) (h := ?_)
   refine sqP 1 (some 22) (h := ?_)
   refine sqP 2 (some 23) (h := ?_)
   refine sqP 3 (some 24) (h := ?_)
   refine sqP 4 (some 25) (h := ?_)
   refine sqP 5 (some 26) (h := ?_)
   refine sqP 6 (some 27) (h := ?_)
   refine sq1 7 none (h := fun K hK => ?_)
   obtain ⟨_, _, _, _⟩ := sqY2 B0
   refine skip_ (w1 := ?_) (by rfl) rfl ?_ ?_
   rotate_left
   ·go_simp
    rfl
   refine hK.out _ _ trivial (fun hHeld => ?_)
   clear hK K
   refine done_ (done_of HT_.out (by kernel_rfl)) ?_
   try go_wp2
   refine sqEr g0 31 #[.int .i64 (wrap64 (Int.tdiv a0 (wrap64 (-t147)))), .int .i64 (wrap64 (Int.tdiv a1 (wrap64 (-t147))))] (Z91 B0) underlying31 ?_
   exact ⟨Z5, sqB1 HB E0⟩
  rw [if_neg c3] at H
  have c6 : decide (a0 < 0) = false := decide_eq_false c3
  clear c3
  by_cases c19 : t147 = 0
  ·rw [if_pos c19] at H
   exact absurd H (by simp)
  rw [if_neg c19] at H
  have c14 := sqe0 c19
  have c15 := sqn1 c19
  obtain ⟨rfl, rfl⟩ := sqO2 H
  go_enter func120, ntmps120
  try go_wp2_with (first | ((with_reducible refine sqd 4 rfl ?_); refine sqBx w (sqB HB) (cs := #[.int .i64 0, .int .i64 0]) (t := 31) ?_; intro g0 hg w4 B0 E0 HB hb; clear hb hg) | ((with_reducible refine sqc 117 rfl ?_); refine sqC (some 8) func117 #[.int .i64 a0, .int .i64 a1] ?_; (with_reducible refine (impl_gcd.calls k a0 a1 t147 _ A3.1).mono ?_); refine sqV fun w5 hb => ?_; replace B0 := sqT B0 hb; replace HB := sqS (sqB1 HB E0) hb))
  replace B0 := sqa (blk_drew B0.1)
  replace HB := sqa (below_drew1 HB.1)
  refine start_ (n := 8) (S := fun w' => True) (ds := []) #[false, false, false, false, false, false, false, false] (by kernel_rfl) rfl rfl trivial (fun hHeld => ?_); refine with_tabW impl_lowest.tab4 impl_lowest.bits4 (fun HT_ HW_ => ?_)
  generalize w5.drew = w9 at B0 HB hHeld ⊢
  refine sqP 0 (some 21) (h := ?_)
  refine sqP 1 (some 22) (h := ?_)
  refine sqP 2 (some 23) (h := ?_)
  refine sqP 3 (some 24) (h := ?_)
  refine sqP 4 (some 25) (h := ?_)
  refine sqP 5 (some 26) (h := ?_)
  refine sqP 6 (some 27) (h := ?_)
  refine sq1 7 none (h := fun K hK => ?_)
  obtain ⟨_, _, _, _⟩ := sqY2 B0
  refine skip_ (w1 := ?_) (by rfl) rfl ?_ ?_
  rotate_left
  ·go_simp
   rfl
  refine hK.out _ _ trivial (fun hHeld => ?_)
  clear hK K
  refine done_ (done_of HT_.out (by kernel_rfl)) ?_
  try go_wp2
  refine sqEr g0 31 #[.int .i64 (wrap64 (Int.tdiv a0 t147)), .int .i64 (wrap64 (Int.tdiv a1 t147))] (Z92 B0) underlying31 ?_
  exact ⟨Z5, sqB1 HB E0⟩
 rw [if_neg c0] at H
 have c1 := sqe0 c0
 have c2 := sqn1 c0
 by_cases c25 : t147 = 0
 ·rw [if_pos c25] at H
  exact absurd H (by simp)
 rw [if_neg c25] at H
 have c17 := sqe0 c25
 have c18 := sqn1 c25
 obtain ⟨rfl, rfl⟩ := sqO2 H
 go_enter func120, ntmps120
 try go_wp2_with (first | ((with_reducible refine sqd 4 rfl ?_); refine sqBx w (sqB HB) (cs := #[.int .i64 0, .int .i64 0]) (t := 31) ?_; intro g0 hg w26 B0 E0 HB hb; clear hb hg) | ((with_reducible refine sqc 117 rfl ?_); refine sqC (some 8) func117 #[.int .i64 a0, .int .i64 a1] ?_; (with_reducible refine (impl_gcd.calls k a0 a1 t147 _ A3.1).mono ?_); refine sqV fun w27 hb => ?_; replace B0 := sqT B0 hb; replace HB := sqS (sqB1 HB E0) hb))
 replace B0 := sqa (blk_drew B0.1)
 replace HB := sqa (below_drew1 HB.1)
 refine start_ (n := 8) (S := fun w' => True) (ds := []) #[false, false, false, false, false, false, false, false] (by kernel_rfl) rfl rfl trivial (fun hHeld => ?_); refine with_tabW impl_lowest.tab4 impl_lowest.bits4 (fun HT_ HW_ => ?_)
 generalize w27.drew = w28 at B0 HB hHeld ⊢
 refine sqP 0 (some 21) (h := ?_)
 refine sqP 1 (some 22) (h := ?_)
 refine sqP 2 (some 23) (h := ?_)
 refine sqP 3 (some 24) (h := ?_)
 refine sqP 4 (some 25) (h := ?_)
 refine sqP 5 (some 26) (h := ?_)
 refine sqP 6 (some 27) (h := ?_)
 refine sq1 7 none (h := fun K hK => ?_)
 obtain ⟨_, _, _, _⟩ := sqY2 B0
 refine skip_ (w1 := ?_) (by rfl) rfl ?_ ?_
 rotate_left
 ·go_simp
  rfl
 refine hK.out _ _ trivial (fun hHeld => ?_)
 clear hK K
 refine done_ (done_of HT_.out (by kernel_rfl)) ?_
 try go_wp2
 refine sqEr g0 31 #[.int .i64 (wrap64 (Int.tdiv a0 t147)), .int .i64 (wrap64 (Int.tdiv a1 t147))] (Z92 B0) underlying31 ?_
 exact ⟨Z5, sqB1 HB E0⟩

/-! ### impl_danced: function 72 -/
def impl_danced.l0 : Nat → ByteArray → Int → Int → Int → Int → Option (Int × Int × Bool)
 | 0, _, _, _, _, _ => none
 | k + 1, x1, x9, x0, x2, x3 => if x0 < x9 then (if 0 ≤ x0 then (if x0 < (x1.size : Int) then (if (bt x1 x0) = 84 then ((impl_plus.f k x2 x3 1).bind fun bt0 => (if bt0.2.2 = true then (impl_danced.l0 k x1 x9 (wrap64 (x0 + 1)) bt0.1 bt0.2.1) else (some (0, 0, false)))) else (if (bt x1 x0) = 116 then ((impl_plus.f k x2 x3 (-1)).bind fun bt1 => (if bt1.2.2 = true then (impl_danced.l0 k x1 x9 (wrap64 (x0 + 1)) bt1.1 bt1.2.1) else (some (0, 0, false)))) else ((impl_lowest.f k (wrap64 (-x3)) x2).bind fun bt2 => (impl_danced.l0 k x1 x9 (wrap64 (x0 + 1)) bt2.1 bt2.2)))) else (none)) else (none)) else (some (x2, x3, true))
def impl_danced.f (k : Nat) (a0_0 : Int) (a0_1 : Int) (a1 : ByteArray) : Option (Int × Int × Bool) := impl_danced.l0 k a1 (a1.size : Int) 0 a0_0 a0_1
abbrev impl_danced.M (k : Nat) : Prop := (∀ y0 y1 y2 y3 y4, LeO (impl_danced.l0 k y0 y1 y2 y3 y4) (impl_danced.l0 (k + 1) y0 y1 y2 y3 y4))
theorem impl_danced.mono_t : ∀ k, impl_danced.M k → impl_danced.M (k + 1) ∧ ∀ a0 a1 a2, LeO (impl_danced.f k a0 a1 a2) (impl_danced.f (k + 1) a0 a1 a2) := by
  rintro k ih0
  refine ⟨?_, ?_⟩ <;> (try unfold impl_danced.M) <;> intros <;> (first | unfold impl_danced.l0 | unfold impl_danced.f) <;> repeat' (with_reducible first | exact ih0 _ _ _ _ _ | exact impl_lowest.mono _ _ _ | exact impl_plus.mono _ _ _ _ | exact LeO.refl _ | exact LeO.none _ | refine LeO.ite ?_ ?_ | refine LeO.bind ?_ fun _ => ?_)
theorem impl_danced.mono_l : ∀ k, impl_danced.M k
 | 0 => fun _ _ _ _ _ r h => by simp [impl_danced.l0] at h
 | k + 1 => (impl_danced.mono_t k (impl_danced.mono_l k)).1
theorem impl_danced.mono a0 a1 a2 k : LeO (impl_danced.f k a0 a1 a2) (impl_danced.f (k + 1) a0 a1 a2) := (impl_danced.mono_t k (impl_danced.mono_l k)).2 a0 a1 a2
theorem impl_danced.calls (k : Nat) (a0_0 : Int) (a0_1 : Int) (a1 : ByteArray) (r1 : Int) (r2 : Int) (r3 : Bool) (w : World) (H : impl_danced.f k a0_0 a0_1 a1 = some (r1, r2, r3)) :
  Calls prog 72 #[.agg #[.int .i64 a0_0, .int .i64 a0_1], .string a1] w fun e w' => e = .returned (.tuple #[.agg #[.int .i64 r1, .int .i64 r2], .bool r3]) ∧ Below w.heap.size w w' := by
 have hu31 := underlying31
 have HB := sqh w
 unfold impl_danced.f at H
 have H' := sqa H
 clear H
 go_enter func72, ntmps72
 go_wp2_with (first | ((with_reducible refine sqd 2 rfl ?_); refine sqBx w (sqB HB) (cs := #[.int .i64 a0_0, .int .i64 a0_1]) (t := 31) ?_; intro g0 hg w3 B0 E0 HB hb; clear hb hg) | ((with_reducible refine sqd 4 rfl ?_); refine sqBx w (sqB1 HB E0) (cs := #[.int .i64 0, .int .i64 0]) (t := 31) ?_; intro g1 hg w4 B2 E1 HB hb; obtain ⟨N0, N1⟩ := sqM hg B0; replace B0 := sqT B0 hb; clear hb hg))
 go_loopg [10] k (fun kq v0 w' => ∃ (x0 : Int) (x1 : Int) (x2 : Int) (x150000_1 : Int) (x150001_1 : Int), v0 = .int .i64 x0 ∧ Aside0 (impl_danced.l0 kq a1 (a1.size : Int) x0 x1 x2 = some (r1, r2, r3)) ∧ Aside0 (kq ≤ k) ∧ Aside0 (w'.heap[g0]? = some (.cells #[.int .i64 x1, .int .i64 x2] 31 (0, 0))) ∧ Aside0 (w'.heap[g1]? = some (.cells #[.int .i64 x150000_1, .int .i64 x150001_1] 31 (0, 0))) ∧ Aside0 (Below w.heap.size w w'))
 case atStart => exact ⟨(0), (a0_0), (a0_1), (0), (0), Z1, H', ⟨Nat.le_refl _⟩, ⟨sqK B0⟩, ⟨sqK B2⟩, ⟨sqB2 HB E0 E1⟩⟩
 case round =>
  clear H'
  obtain ⟨x0, x1, x2, x150000_1, x150001_1, rfl, HA, HK1, B0, B2, HB⟩ := hrel
  cases gk with
  | zero => exact absurd HA.out (by simp [impl_danced.l0])
  | succ k1 =>
   have H := HA.out
   clear HA
   simp only [impl_danced.l0] at H
   by_cases c5 : x0 < (a1.size : Int)
   ·rw [if_pos c5] at H
    have c5b0 : decide (x0 < (a1.size : Int)) = true := decide_eq_true c5
    clear c5
    obtain ⟨c6, H⟩ := sqI H
    have c6b0 : decide (0 ≤ x0) = true := decide_eq_true c6
    clear c6
    obtain ⟨c7, H⟩ := sqI H
    have c7b0 : decide (x0 < (a1.size : Int)) = true := decide_eq_true c7
    clear c7
    by_cases c9 : (bt a1 x0) = 84
    ·rw [if_pos c9] at H
     have c9b0 : ((bt a1 x0) == 84) = true := sqe1 c9
     have c9b1 : ((bt a1 x0) != 84) = false := sqn0 c9
     clear c9
     obtain ⟨⟨t0, t1, t2⟩, A0, H⟩ := sqD H
     try dsimp only at H
     by_cases c0 : t2 = true
     ·subst c0
      rw [if_pos rfl] at H
      have H' := sqa H
      clear H
      have p8 : 0 ≤ (x0 : Int) := of_decide_eq_true Z16
      have q8 : x0 < (a1.size : Int) := of_decide_eq_true Z16
      have hx8 := bt_at a1 x0
      replace p8 := eq_true p8
      replace q8 := eq_true q8
      have := N0.1
      have := N1.1
      obtain ⟨_, _, _, _⟩ := sqY2 B0
      go_wp2_with (first | ((with_reducible refine sqc 119 rfl ?_); refine sqC (some 26) func119 #[.agg #[.int .i64 x1, .int .i64 x2], .int .i64 1] ?_; (with_reducible refine (impl_plus.calls k1 x1 x2 1 t0 t1 true _ A0.1).mono ?_); refine sqV fun w0 hb => ?_; replace B0 := sqT B0 hb; replace B2 := sqT B2 hb; replace HB := sqS (sqB2 HB E0 E1) hb; obtain ⟨_, _, _, _⟩ := sqY2 B0))
      go_roundg k1
      case measure => have := HK1.out; omega
      case rel => exact ⟨(wrap64 (x0 + 1)), (t0), (t1), (x150000_1), (x150001_1), Z1, H', ⟨Z2 HK1⟩, ⟨by refine sqPut (cs := #[.int .i64 t0, .int .i64 x2]) ?_ 1; refine sqPut (cs := #[.int .i64 x1, .int .i64 x2]) ?_ 0; exact sqK B0⟩, ⟨Z9 N1 B2⟩, ⟨sqB2 HB E0 E1⟩⟩
     obtain rfl := sqb c0
     rw [if_neg sqF] at H
     obtain ⟨rfl, rfl, rfl⟩ := sqO3 H
     have p8 : 0 ≤ (x0 : Int) := of_decide_eq_true Z16
     have q8 : x0 < (a1.size : Int) := of_decide_eq_true Z16
     have hx8 := bt_at a1 x0
     replace p8 := eq_true p8
     replace q8 := eq_true q8
     have := N0.1
     have := N1.1
     obtain ⟨_, _, _, _⟩ := sqY2 B0
     go_wp2_with (first | ((with_reducible refine sqc 119 rfl ?_); refine sqC (some 26) func119 #[.agg #[.int .i64 x1, .int .i64 x2], .int .i64 1] ?_; (with_reducible refine (impl_plus.calls k1 x1 x2 1 t0 t1 false _ A0.1).mono ?_); refine sqV fun w1 hb => ?_; replace B0 := sqT B0 hb; replace B2 := sqT B2 hb; replace HB := sqS (sqB2 HB E0 E1) hb; obtain ⟨_, _, _, _⟩ := sqY2 B0; obtain ⟨_, _, _, _⟩ := sqY2 B2))
     refine sqE g1 31 #[.int .i64 0, .int .i64 0] (Z93 N1 B2) underlying31 ?_
     exact ⟨Z5, sqB2 HB E0 E1⟩
    rw [if_neg c9] at H
    have c9b0 : ((bt a1 x0) == 84) = false := sqe0 c9
    have c9b1 : ((bt a1 x0) != 84) = true := sqn1 c9
    by_cases c21 : (bt a1 x0) = 116
    ·rw [if_pos c21] at H
     have c1 := sqe1 c21
     have c2 := sqn0 c21
     clear c21
     obtain ⟨⟨t3, t4, t5⟩, A1, H⟩ := sqD H
     try dsimp only at H
     by_cases c3 : t5 = true
     ·subst c3
      rw [if_pos rfl] at H
      have H' := sqa H
      clear H
      have p8 : 0 ≤ (x0 : Int) := of_decide_eq_true Z16
      have q8 : x0 < (a1.size : Int) := of_decide_eq_true Z16
      have hx8 := bt_at a1 x0
      replace p8 := eq_true p8
      replace q8 := eq_true q8
      have := N0.1
      have := N1.1
      obtain ⟨_, _, _, _⟩ := sqY2 B0
      go_wp2_with (first | ((with_reducible refine sqc 119 rfl ?_); refine sqC (some 33) func119 #[.agg #[.int .i64 x1, .int .i64 x2], .int .i64 (-1)] ?_; (with_reducible refine (impl_plus.calls k1 x1 x2 (-1) t3 t4 true _ A1.1).mono ?_); refine sqV fun w2 hb => ?_; replace B0 := sqT B0 hb; replace B2 := sqT B2 hb; replace HB := sqS (sqB2 HB E0 E1) hb; obtain ⟨_, _, _, _⟩ := sqY2 B0))
      go_roundg k1
      case measure => have := HK1.out; omega
      case rel => exact ⟨(wrap64 (x0 + 1)), (t3), (t4), (x150000_1), (x150001_1), Z1, H', ⟨Z2 HK1⟩, ⟨by refine sqPut (cs := #[.int .i64 t3, .int .i64 x2]) ?_ 1; refine sqPut (cs := #[.int .i64 x1, .int .i64 x2]) ?_ 0; exact sqK B0⟩, ⟨Z9 N1 B2⟩, ⟨sqB2 HB E0 E1⟩⟩
     obtain rfl := sqb c3
     rw [if_neg sqF] at H
     obtain ⟨rfl, rfl, rfl⟩ := sqO3 H
     have p8 : 0 ≤ (x0 : Int) := of_decide_eq_true Z16
     have q8 : x0 < (a1.size : Int) := of_decide_eq_true Z16
     have hx8 := bt_at a1 x0
     replace p8 := eq_true p8
     replace q8 := eq_true q8
     have := N0.1
     have := N1.1
     obtain ⟨_, _, _, _⟩ := sqY2 B0
     go_wp2_with (first | ((with_reducible refine sqc 119 rfl ?_); refine sqC (some 33) func119 #[.agg #[.int .i64 x1, .int .i64 x2], .int .i64 (-1)] ?_; (with_reducible refine (impl_plus.calls k1 x1 x2 (-1) t3 t4 false _ A1.1).mono ?_); refine sqV fun w5 hb => ?_; replace B0 := sqT B0 hb; replace B2 := sqT B2 hb; replace HB := sqS (sqB2 HB E0 E1) hb; obtain ⟨_, _, _, _⟩ := sqY2 B0; obtain ⟨_, _, _, _⟩ := sqY2 B2))
     refine sqE g1 31 #[.int .i64 0, .int .i64 0] (Z93 N1 B2) underlying31 ?_
     exact ⟨Z5, sqB2 HB E0 E1⟩
    rw [if_neg c21] at H
    have c1 := sqe0 c21
    have c2 := sqn1 c21
    obtain ⟨⟨t6, t7⟩, A2, H⟩ := sqD H
    try dsimp only at H
    have H' := sqa H
    clear H
    have p8 : 0 ≤ (x0 : Int) := of_decide_eq_true Z16
    have q8 : x0 < (a1.size : Int) := of_decide_eq_true Z16
    have hx8 := bt_at a1 x0
    replace p8 := eq_true p8
    replace q8 := eq_true q8
    have := N0.1
    have := N1.1
    obtain ⟨_, _, _, _⟩ := sqY2 B0
    go_wp2_with (first | ((with_reducible refine sqc 120 rfl ?_); refine sqC (some 21) func120 #[.int .i64 (wrap64 (-x2)), .int .i64 x1] ?_; (with_reducible refine (impl_lowest.calls k1 (wrap64 (-x2)) x1 t6 t7 _ A2.1).mono ?_); refine sqV fun w6 hb => ?_; replace B0 := sqT B0 hb; replace B2 := sqT B2 hb; replace HB := sqS (sqB2 HB E0 E1) hb; obtain ⟨_, _, _, _⟩ := sqY2 B0))
    go_roundg k1
    case measure => have := HK1.out; omega
    case rel => exact ⟨(wrap64 (x0 + 1)), (t6), (t7), (x150000_1), (x150001_1), Z1, H', ⟨Z2 HK1⟩, ⟨by refine sqPut (cs := #[.int .i64 t6, .int .i64 x2]) ?_ 1; refine sqPut (cs := #[.int .i64 x1, .int .i64 x2]) ?_ 0; exact sqK B0⟩, ⟨Z9 N1 B2⟩, ⟨sqB2 HB E0 E1⟩⟩
   rw [if_neg c5] at H
   have c5b0 : decide (x0 < (a1.size : Int)) = false := decide_eq_false c5
   clear c5
   obtain ⟨rfl, rfl, rfl⟩ := sqO3 H
   have := N0.1
   have := N1.1
   obtain ⟨_, _, _, _⟩ := sqY2 B0
   obtain ⟨_, _, _, _⟩ := sqY2 B2
   go_wp2
   refine sqE g1 31 #[.int .i64 x1, .int .i64 x2] (by refine sqPut (cs := #[.int .i64 x1, .int .i64 x150001_1]) ?_ 1; refine sqPut (cs := #[.int .i64 x150000_1, .int .i64 x150001_1]) ?_ 0; exact sqK B2) underlying31 ?_
   exact ⟨Z5, sqB2 HB E0 E1⟩

/-! ### impl_DancedFrom: function 25 -/
def impl_DancedFrom.f (k : Nat) (a0_0 : Int) (a0_1 : Int) (a1 : ByteArray) : Option (Int × Int × Bool) := (impl_isFraction.f k a0_0 a0_1).bind fun t0 => (if t0 = true then ((impl_isDance.f a1).bind fun t1 => (if t1 = true then ((impl_danced.f k a0_0 a0_1 a1).bind fun bt0 => (some (bt0.1, bt0.2.1, bt0.2.2))) else (some (0, 0, false)))) else (some (0, 0, false)))
theorem impl_DancedFrom.mono : ∀ a0 a1 a2 k, LeO (impl_DancedFrom.f k a0 a1 a2) (impl_DancedFrom.f (k + 1) a0 a1 a2) := by
 intro a0 a1 a2 k
 unfold impl_DancedFrom.f
 repeat' (with_reducible first | exact impl_danced.mono _ _ _ _ | exact impl_isFraction.mono _ _ _ | exact LeO.refl _ | exact LeO.none _ | refine LeO.ite ?_ ?_ | refine LeO.bind ?_ fun _ => ?_)
theorem impl_DancedFrom.calls (k : Nat) (a0_0 : Int) (a0_1 : Int) (a1 : ByteArray) (r1 : Int) (r2 : Int) (r3 : Bool) (w : World) (H : impl_DancedFrom.f k a0_0 a0_1 a1 = some (r1, r2, r3)) :
  Calls prog 25 #[.agg #[.int .i64 a0_0, .int .i64 a0_1], .string a1] w fun e w' => e = .returned (.tuple #[.agg #[.int .i64 r1, .int .i64 r2], .bool r3]) ∧ Below w.heap.size w w' := by
 have hu31 := underlying31
 have HB := sqh w
 unfold impl_DancedFrom.f at H
 obtain ⟨t0, A3, H⟩ := sqD H
 by_cases c4 : t0 = true
 ·subst c4
  rw [if_pos rfl] at H
  obtain ⟨t1, A5, H⟩ := sqD H
  by_cases c6 : t1 = true
  ·subst c6
   rw [if_pos rfl] at H
   obtain ⟨⟨t2, t3, t164⟩, A7, H⟩ := sqD H
   try dsimp only at H
   obtain ⟨rfl, rfl, rfl⟩ := sqO3 H
   go_enter func25, ntmps25
   go_wp2_with (first | ((with_reducible refine sqd 2 rfl ?_); refine sqBx w (sqB HB) (cs := #[.int .i64 a0_0, .int .i64 a0_1]) (t := 31) ?_; intro g0 hg w8 B0 E0 HB hb; clear hb hg) | ((with_reducible refine sqd 4 rfl ?_); refine sqBx w (sqB1 HB E0) (cs := #[.int .i64 0, .int .i64 0]) (t := 31) ?_; intro g1 hg w9 B2 E1 HB hb; obtain ⟨N0, N1⟩ := sqM hg B0; replace B0 := sqT B0 hb; clear hb hg; have := N0.1; have := N1.1; obtain ⟨_, _, _, _⟩ := sqY2 B0) | ((with_reducible refine sqc 70 rfl ?_); refine sqC (some 7) func70 #[.agg #[.int .i64 a0_0, .int .i64 a0_1]] ?_; (with_reducible refine (impl_isFraction.calls k a0_0 a0_1 true _ A3.1).mono ?_); refine sqV fun w0 hb => ?_; replace B0 := sqT B0 hb; replace B2 := sqT B2 hb; replace HB := sqS (sqB2 HB E0 E1) hb) | (go_at_call 71; (with_reducible refine (impl_isDance.calls a1 true _ A5.1).mono ?_); rintro e w1 ⟨rfl, hb⟩; replace B0 := sqT B0 hb; replace B2 := sqT B2 hb; replace HB := sqS (sqB2 HB E0 E1) hb; obtain ⟨_, _, _, _⟩ := sqY2 B0) | ((with_reducible refine sqc 72 rfl ?_); refine sqC (some 17) func72 #[.agg #[.int .i64 a0_0, .int .i64 a0_1], .string a1] ?_; (with_reducible refine (impl_danced.calls k a0_0 a0_1 a1 t2 t3 t164 _ A7.1).mono ?_); refine sqV fun w2 hb => ?_; replace B0 := sqT B0 hb; replace B2 := sqT B2 hb; replace HB := sqS (sqB2 HB E0 E1) hb; obtain ⟨_, _, _, _⟩ := sqY2 B2))
   refine sqE g1 31 #[.int .i64 t2, .int .i64 t3] (by refine sqPut (cs := #[.int .i64 t2, .int .i64 0]) ?_ 1; refine sqPut (cs := #[.int .i64 0, .int .i64 0]) ?_ 0; exact sqK B2) underlying31 ?_
   exact ⟨Z5, sqB2 HB E0 E1⟩
  obtain rfl := sqb c6
  rw [if_neg sqF] at H
  obtain ⟨rfl, rfl, rfl⟩ := sqO3 H
  go_enter func25, ntmps25
  go_wp2_with (first | ((with_reducible refine sqd 2 rfl ?_); refine sqBx w (sqB HB) (cs := #[.int .i64 a0_0, .int .i64 a0_1]) (t := 31) ?_; intro g0 hg w3 B0 E0 HB hb; clear hb hg) | ((with_reducible refine sqd 4 rfl ?_); refine sqBx w (sqB1 HB E0) (cs := #[.int .i64 0, .int .i64 0]) (t := 31) ?_; intro g1 hg w4 B2 E1 HB hb; obtain ⟨N0, N1⟩ := sqM hg B0; replace B0 := sqT B0 hb; clear hb hg; have := N0.1; have := N1.1; obtain ⟨_, _, _, _⟩ := sqY2 B0) | ((with_reducible refine sqc 70 rfl ?_); refine sqC (some 7) func70 #[.agg #[.int .i64 a0_0, .int .i64 a0_1]] ?_; (with_reducible refine (impl_isFraction.calls k a0_0 a0_1 true _ A3.1).mono ?_); refine sqV fun w5 hb => ?_; replace B0 := sqT B0 hb; replace B2 := sqT B2 hb; replace HB := sqS (sqB2 HB E0 E1) hb) | (go_at_call 71; (with_reducible refine (impl_isDance.calls a1 false _ A5.1).mono ?_); rintro e w6 ⟨rfl, hb⟩; replace B0 := sqT B0 hb; replace B2 := sqT B2 hb; replace HB := sqS (sqB2 HB E0 E1) hb; obtain ⟨_, _, _, _⟩ := sqY2 B2))
  refine sqE g1 31 #[.int .i64 0, .int .i64 0] (Z12 B2) underlying31 ?_
  exact ⟨Z5, sqB2 HB E0 E1⟩
 obtain rfl := sqb c4
 rw [if_neg sqF] at H
 obtain ⟨rfl, rfl, rfl⟩ := sqO3 H
 go_enter func25, ntmps25
 go_wp2_with (first | ((with_reducible refine sqd 2 rfl ?_); refine sqBx w (sqB HB) (cs := #[.int .i64 a0_0, .int .i64 a0_1]) (t := 31) ?_; intro g0 hg w7 B0 E0 HB hb; clear hb hg) | ((with_reducible refine sqd 4 rfl ?_); refine sqBx w (sqB1 HB E0) (cs := #[.int .i64 0, .int .i64 0]) (t := 31) ?_; intro g1 hg w25 B2 E1 HB hb; obtain ⟨N0, N1⟩ := sqM hg B0; replace B0 := sqT B0 hb; clear hb hg; have := N0.1; have := N1.1; obtain ⟨_, _, _, _⟩ := sqY2 B0) | ((with_reducible refine sqc 70 rfl ?_); refine sqC (some 7) func70 #[.agg #[.int .i64 a0_0, .int .i64 a0_1]] ?_; (with_reducible refine (impl_isFraction.calls k a0_0 a0_1 false _ A3.1).mono ?_); refine sqV fun w28 hb => ?_; replace B0 := sqT B0 hb; replace B2 := sqT B2 hb; replace HB := sqS (sqB2 HB E0 E1) hb; obtain ⟨_, _, _, _⟩ := sqY2 B2))
 refine sqE g1 31 #[.int .i64 0, .int .i64 0] (Z12 B2) underlying31 ?_
 exact ⟨Z5, sqB2 HB E0 E1⟩

/-! ### impl_isSmall: function 104 -/
def impl_isSmall.f (k : Nat) (a0_0 : Int) (a0_1 : Int) (a1 : Int) : Option (Bool) := (impl_isFraction.f k a0_0 a0_1).bind fun t0 => (if t0 = true then (if a0_0 ≥ (wrap64 (-a1)) then (if a0_0 ≤ a1 then (some (decide (a0_1 ≤ a1))) else (some false)) else (some false)) else (some false))
theorem impl_isSmall.mono : ∀ a0 a1 a2 k, LeO (impl_isSmall.f k a0 a1 a2) (impl_isSmall.f (k + 1) a0 a1 a2) := by
 intro a0 a1 a2 k
 unfold impl_isSmall.f
 repeat' (with_reducible first | exact impl_isFraction.mono _ _ _ | exact LeO.refl _ | exact LeO.none _ | refine LeO.ite ?_ ?_ | refine LeO.bind ?_ fun _ => ?_)
theorem impl_isSmall.calls (k : Nat) (a0_0 : Int) (a0_1 : Int) (a1 : Int) (r : Bool) (w : World) (H : impl_isSmall.f k a0_0 a0_1 a1 = some r) :
  Calls prog 104 #[.agg #[.int .i64 a0_0, .int .i64 a0_1], .int .i64 a1] w fun e w' => e = .returned (.bool r) ∧ Below w.heap.size w w' := by
 have hu31 := underlying31
 have HB := sqh w
 unfold impl_isSmall.f at H
 obtain ⟨t0, A3, H⟩ := sqD H
 by_cases c4 : t0 = true
 ·subst c4
  rw [if_pos rfl] at H
  by_cases c5 : a0_0 ≥ (wrap64 (-a1))
  ·rw [if_pos c5] at H
   have c5b0 : decide ((wrap64 (-a1)) ≤ a0_0) = true := decide_eq_true c5
   clear c5
   by_cases c6 : a0_0 ≤ a1
   ·rw [if_pos c6] at H
    have c6b0 : decide (a0_0 ≤ a1) = true := decide_eq_true c6
    clear c6
    obtain rfl := sqo H
    go_enter func104, ntmps104
    go_wp2_with (first | ((with_reducible refine sqd 2 rfl ?_); refine sqBx w (sqB HB) (cs := #[.int .i64 a0_0, .int .i64 a0_1]) (t := 31) ?_; intro g0 hg w7 B0 E0 HB hb; clear hb hg; obtain ⟨_, _, _, _⟩ := sqY2 B0) | ((with_reducible refine sqc 70 rfl ?_); refine sqC (some 6) func70 #[.agg #[.int .i64 a0_0, .int .i64 a0_1]] ?_; (with_reducible refine (impl_isFraction.calls k a0_0 a0_1 true _ A3.1).mono ?_); refine sqV fun w9 hb => ?_; replace B0 := sqT B0 hb; replace HB := sqS (sqB1 HB E0) hb; obtain ⟨_, _, _, _⟩ := sqY2 B0))
    go_ret
    exact ⟨Z5, sqB1 HB E0⟩
   rw [if_neg c6] at H
   have c6b0 : decide (a0_0 ≤ a1) = false := decide_eq_false c6
   clear c6
   obtain rfl := sqo H
   go_enter func104, ntmps104
   go_wp2_with (first | ((with_reducible refine sqd 2 rfl ?_); refine sqBx w (sqB HB) (cs := #[.int .i64 a0_0, .int .i64 a0_1]) (t := 31) ?_; intro g0 hg w0 B0 E0 HB hb; clear hb hg; obtain ⟨_, _, _, _⟩ := sqY2 B0) | ((with_reducible refine sqc 70 rfl ?_); refine sqC (some 6) func70 #[.agg #[.int .i64 a0_0, .int .i64 a0_1]] ?_; (with_reducible refine (impl_isFraction.calls k a0_0 a0_1 true _ A3.1).mono ?_); refine sqV fun w1 hb => ?_; replace B0 := sqT B0 hb; replace HB := sqS (sqB1 HB E0) hb; obtain ⟨_, _, _, _⟩ := sqY2 B0))
   go_ret
   exact ⟨Z5, sqB1 HB E0⟩
  rw [if_neg c5] at H
  have c5b0 : decide ((wrap64 (-a1)) ≤ a0_0) = false := decide_eq_false c5
  clear c5
  obtain rfl := sqo H
  go_enter func104, ntmps104
  go_wp2_with (first | ((with_reducible refine sqd 2 rfl ?_); refine sqBx w (sqB HB) (cs := #[.int .i64 a0_0, .int .i64 a0_1]) (t := 31) ?_; intro g0 hg w2 B0 E0 HB hb; clear hb hg; obtain ⟨_, _, _, _⟩ := sqY2 B0) | ((with_reducible refine sqc 70 rfl ?_); refine sqC (some 6) func70 #[.agg #[.int .i64 a0_0, .int .i64 a0_1]] ?_; (with_reducible refine (impl_isFraction.calls k a0_0 a0_1 true _ A3.1).mono ?_); refine sqV fun w3 hb => ?_; replace B0 := sqT B0 hb; replace HB := sqS (sqB1 HB E0) hb; obtain ⟨_, _, _, _⟩ := sqY2 B0))
  go_ret
  exact ⟨Z5, sqB1 HB E0⟩
 obtain rfl := sqb c4
 rw [if_neg sqF] at H
 obtain rfl := sqo H
 go_enter func104, ntmps104
 go_wp2_with (first | ((with_reducible refine sqd 2 rfl ?_); refine sqBx w (sqB HB) (cs := #[.int .i64 a0_0, .int .i64 a0_1]) (t := 31) ?_; intro g0 hg w4 B0 E0 HB hb; clear hb hg; obtain ⟨_, _, _, _⟩ := sqY2 B0) | ((with_reducible refine sqc 70 rfl ?_); refine sqC (some 6) func70 #[.agg #[.int .i64 a0_0, .int .i64 a0_1]] ?_; (with_reducible refine (impl_isFraction.calls k a0_0 a0_1 false _ A3.1).mono ?_); refine sqV fun w5 hb => ?_; replace B0 := sqT B0 hb; replace HB := sqS (sqB1 HB E0) hb))
 go_ret
 exact ⟨Z5, sqB1 HB E0⟩

-- given: function 84 (strings_Cut)

-- given: function 144 (strconv_Itoa)
end Go.Proofs.YtofmlbgfcohhoaaGreatDoor.PFnDeskLine
