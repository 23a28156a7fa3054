import Derived.Test.YtofmlbgfcohhoaaGreatDoorPFnDeskSayx1
set_option maxHeartbeats 8000000
set_option maxRecDepth 100000
namespace Go.Proofs.YtofmlbgfcohhoaaGreatDoor.PFnDeskSay
open Go.RowKit Go.Proofs.YtofmlbgfcohhoaaGreatDoorW.PrintWords Go.Proofs.YtofmlbgfcohhoaaGreatDoorW.PrintLast Go.Proofs.YtofmlbgfcohhoaaGreatDoorW.PrintMore Go.Proofs.YtofmlbgfcohhoaaGreatDoor.Lib Go.Proofs.Tryz
attribute [local go_sem] max2_int min2_int max_two min_two max_three min_three max_four min_four   -- for this text's walks alone
set_option linter.unusedVariables false
set_option linter.unusedSimpArgs false

attribute [local go_sem high] eqA31
mutual
def F22.j0 : Nat → Bool → Int → Int → List (S31) → Int → Int → List (S31) → Option (Bool)
 | 0, _, _, _, _, _, _, _ => none
 | k + 1, x0, x1, x2, x3, x4, x5, x6 => if x0 = true then (some false) else (F22.l0 k 0 x1 x2 x3 x4 x5 x6)
def F22.l0 : Nat → Int → Int → Int → List (S31) → Int → Int → List (S31) → Option (Bool)
 | 0, _, _, _, _, _, _, _ => none
 | k + 1, x5, x0, x1, x2, x3, x4, x6 => if x5 < (x2.length : Int) then (if 0 ≤ x5 then (if x5 < (x6.length : Int) then (if (!(((rd_T31 x2 x5).f0) == ((rd_T31 x6 x5).f0)) || (!(((rd_T31 x2 x5).f1) == ((rd_T31 x6 x5).f1)))) = true then (some false) else (F22.l0 k (wrap64 (x5 + 1)) x0 x1 x2 x3 x4 x6)) else (none)) else (none)) else (some true)
end
def F22.f (k : Nat) (a0_0 : Int) (a0_1 : Int) (l0_2 : List (S31)) (a1_0 : Int) (a1_1 : Int) (l1_2 : List (S31)) : Option (Bool) := if (!(a0_0 == a1_0) || (!(a0_1 == a1_1))) = true then (F22.j0 k true a0_0 a0_1 l0_2 a1_0 a1_1 l1_2) else (F22.j0 k ((l0_2.length : Int) != (l1_2.length : Int)) a0_0 a0_1 l0_2 a1_0 a1_1 l1_2)
theorem F22.c (k : Nat) (a0_0 : Int) (a0_1 : Int) (A0_2 : Option Addr) (c0_2 : Nat) (l0_2 : List (S31)) (a1_0 : Int) (a1_1 : Int) (A1_2 : Option Addr) (c1_2 : Nat) (l1_2 : List (S31)) (r : Bool) (w : World) (hr0_2 : Kd.C k31 w A0_2 l0_2.length l0_2) (hc0_2 : l0_2.length ≤ c0_2) (hr1_2 : Kd.C k31 w A1_2 l1_2.length l1_2) (hc1_2 : l1_2.length ≤ c1_2) (H : F22.f k a0_0 a0_1 l0_2 a1_0 a1_1 l1_2 = some r) :
  Calls prog 22 #[.agg #[.int .i64 a0_0, .int .i64 a0_1, .slice A0_2 l0_2.length c0_2], .agg #[.int .i64 a1_0, .int .i64 a1_1, .slice A1_2 l1_2.length c1_2]] w fun e w' => e = .returned (.bool r) ∧ Below w.heap.size w w' := by
 have hu34 := underlying34
 have hu31 := underlying31
 have HR0_2 := sqa hr0_2
 have HC0_2 := sqa hc0_2
 clear hr0_2 hc0_2
 have HR1_2 := sqa hr1_2
 have HC1_2 := sqa hc1_2
 clear hr1_2 hc1_2
 have HB := sqh w
 unfold F22.f at H
 have HC3 := sqa H
 clear H
 go_enter func22, ntmps22
 go_upto_region 1 with (first | ((with_reducible refine sqd 2 rfl ?_); (try (refine gate_guard (by rfl) ?_; dsimp only)); refine sqx0 w (sqB HB) #[.int .i64 a0_0, .int .i64 a0_1, .slice A0_2 l0_2.length c0_2] 34 fun g0 w4 B0 E0 HB => ?_) | ((with_reducible refine sqd 3 rfl ?_); (try (refine gate_guard (by rfl) ?_; dsimp only)); refine sqx1 w (sqB1 HB E0) #[.int .i64 a1_0, .int .i64 a1_1, .slice A1_2 l1_2.length c1_2] 34 B0 fun g1 w5 B2 E1 HB N0 N1 B0 => ?_))
 repeat (go_quiet (first | ((with_reducible refine sqd 2 rfl ?_); (try (refine gate_guard (by rfl) ?_; dsimp only)); refine sqx0 w (sqB HB) #[.int .i64 a0_0, .int .i64 a0_1, .slice A0_2 l0_2.length c0_2] 34 fun g0 w4 B0 E0 HB => ?_) | ((with_reducible refine sqd 3 rfl ?_); (try (refine gate_guard (by rfl) ?_; dsimp only)); refine sqx1 w (sqB1 HB E0) #[.int .i64 a1_0, .int .i64 a1_1, .slice A1_2 l1_2.length c1_2] 34 B0 fun g1 w5 B2 E1 HB N0 N1 B0 => ?_)); go_upto_region 1 with (first | ((with_reducible refine sqd 2 rfl ?_); (try (refine gate_guard (by rfl) ?_; dsimp only)); refine sqx0 w (sqB HB) #[.int .i64 a0_0, .int .i64 a0_1, .slice A0_2 l0_2.length c0_2] 34 fun g0 w4 B0 E0 HB => ?_) | ((with_reducible refine sqd 3 rfl ?_); (try (refine gate_guard (by rfl) ?_; dsimp only)); refine sqx1 w (sqB1 HB E0) #[.int .i64 a1_0, .int .i64 a1_1, .slice A1_2 l1_2.length c1_2] 34 B0 fun g1 w5 B2 E1 HB N0 N1 B0 => ?_)))
 (try simp only [Act.put, List.setIfInBounds_toArray, List.set_cons_zero, List.set_cons_succ])
 go_cut [19] (fun v0 wc => ∃ (kq : Nat) (x0 : Bool), v0 = .bool x0 ∧ Aside0 (F22.j0 kq x0 a0_0 a0_1 l0_2 a1_0 a1_1 l1_2 = some r) ∧ Aside0 (kq ≤ k) ∧ Aside0 (wc.heap[g0]? = some (.cells #[.int .i64 a0_0, .int .i64 a0_1, (.slice A0_2 l0_2.length c0_2)] 34 (0, 0))) ∧ Aside0 (wc.heap[g1]? = some (.cells #[.int .i64 a1_0, .int .i64 a1_1, (.slice A1_2 l1_2.length c1_2)] 34 (0, 0))) ∧ Aside0 (Below w.heap.size w wc))
 case first =>
  have H := HC3.1
  clear HC3
  obtain ⟨c6, H⟩ | ⟨c6, H⟩ := sqi2 H
  ·have c6b0 : (!(a0_0 == a1_0) || (!(a0_1 == a1_1))) = true := c6
   clear c6
   (first | rw [c6b0] | (simp only [i64_w, i32_w]; rw [c6b0]) | skip)
   have H' := sqa H
   clear H
   have := sqn2 N0 N1
   have := sqY3 B0
   have := sqY3 B2
   go_wp2
   repeat (go_quiet (fail); try go_wp2)
   go_meet
   case rel => exact ⟨_, (true), Z1, H', ⟨Z11⟩, ⟨sqK B0⟩, ⟨sqK B2⟩, ⟨sqB2 HB E0 E1⟩⟩
  have c6b0 : (!(a0_0 == a1_0) || (!(a0_1 == a1_1))) = false := by simpa using c6
  clear c6
  (first | rw [c6b0] | (simp only [i64_w, i32_w]; rw [c6b0]) | skip)
  have H' := sqa H
  clear H
  have := sqn2 N0 N1
  have := sqY3 B0
  have := sqY3 B2
  go_wp2
  repeat (go_quiet (fail); try go_wp2)
  go_meet
  case rel => exact ⟨_, (((l0_2.length : Int) != (l1_2.length : Int))), Z1, H', ⟨Z11⟩, ⟨sqK B0⟩, ⟨sqK B2⟩, ⟨sqB2 HB E0 E1⟩⟩
 case rest =>
  clear HC3
  obtain ⟨kq, x0, rfl, HA, HJ2, B0, B2, HB⟩ := hcut
  cases kq with
  | zero => exact absurd HA.out (by simp [F22.j0])
  | succ kj2 =>
   have H := HA.out
   clear HA
   simp only [F22.j0] at H
   obtain rfl | rfl := sqt x0
   ·rw [if_pos rfl] at H
    obtain rfl := sqo H
    go_wp2
    repeat (go_quiet (fail); try go_wp2)
    go_ret
    exact ⟨Z5, sqB2 HB E0 E1⟩
   rw [if_neg sqF] at H
   have H' := sqa H
   clear H
   go_wp2
   repeat (go_quiet (fail); try go_wp2)
   go_loopg [5] kj2 (fun kq v5 w' => ∃ (x5_2 : Int), v5 = .int .i64 x5_2 ∧ Aside0 (F22.l0 kq x5_2 a0_0 a0_1 l0_2 a1_0 a1_1 l1_2 = some r) ∧ Aside0 (kq ≤ kj2) ∧ Aside0 (w'.heap[g0]? = some (.cells #[.int .i64 a0_0, .int .i64 a0_1, (.slice A0_2 l0_2.length c0_2)] 34 (0, 0))) ∧ Aside0 (w'.heap[g1]? = some (.cells #[.int .i64 a1_0, .int .i64 a1_1, (.slice A1_2 l1_2.length c1_2)] 34 (0, 0))) ∧ Aside0 (Below w.heap.size w w'))
   case atStart => exact ⟨(0), Z1, H', ⟨Nat.le_refl _⟩, ⟨sqK B0⟩, ⟨sqK B2⟩, ⟨sqB2 HB E0 E1⟩⟩
   case round =>
    clear H'
    obtain ⟨x5_2, rfl, HA, HK2, B0, B2, HB⟩ := hrel
    cases gk with
    | zero => exact absurd HA.out (by simp [F22.l0])
    | succ k2 =>
     have H := HA.out
     clear HA
     simp only [F22.l0] at H
     obtain ⟨c2, H⟩ | ⟨c2, H⟩ := sqi3 H
     ·obtain ⟨c4, H⟩ := sqJ2 H
      obtain ⟨c7, H⟩ := sqJ2 H
      obtain ⟨c8, H⟩ | ⟨c8, H⟩ := sqi2 H
      ·have c9 : (!(((rd_T31 l0_2 x5_2).f0) == ((rd_T31 l1_2 x5_2).f0)) || (!(((rd_T31 l0_2 x5_2).f1) == ((rd_T31 l1_2 x5_2).f1)))) = true := c8
       clear c8
       obtain rfl := sqo H
       have := sqn2 N0 N1
       have := sqY3 B0
       have p0 : 0 ≤ (x5_2 : Int) := of_decide_eq_true Z16
       have q0 : x5_2 < (l0_2.length : Int) := of_decide_eq_true Z16
       obtain ⟨ad0, e0, hx0, hx1⟩ := at_T31 HR0_2.1 x5_2 p0 q0
       cases e0
       replace hx0 := (HB.1.cell (World.block_lt_of_cell? w _ hx0)).trans hx0
       replace hx1 := (HB.1.cell (World.block_lt_of_cell? w _ hx1)).trans hx1
       replace p0 := eq_true p0
       replace q0 := eq_true q0
       have := sqY3 B2
       have p1 : 0 ≤ (x5_2 : Int) := of_decide_eq_true Z16
       have q1 : x5_2 < (l1_2.length : Int) := of_decide_eq_true Z16
       obtain ⟨ad1, e1, hx2, hx3⟩ := at_T31 HR1_2.1 x5_2 p1 q1
       cases e1
       replace hx2 := (HB.1.cell (World.block_lt_of_cell? w _ hx2)).trans hx2
       replace hx3 := (HB.1.cell (World.block_lt_of_cell? w _ hx3)).trans hx3
       replace p1 := eq_true p1
       replace q1 := eq_true q1
       go_wp2
       repeat (go_quiet (fail); try go_wp2)
       go_ret
       exact ⟨Z5, sqB2 HB E0 E1⟩
      have c9 : (!(((rd_T31 l0_2 x5_2).f0) == ((rd_T31 l1_2 x5_2).f0)) || (!(((rd_T31 l0_2 x5_2).f1) == ((rd_T31 l1_2 x5_2).f1)))) = false := by simpa using c8
      clear c8
      have H' := sqa H
      clear H
      have := sqn2 N0 N1
      have := sqY3 B0
      have p0 : 0 ≤ (x5_2 : Int) := of_decide_eq_true Z16
      have q0 : x5_2 < (l0_2.length : Int) := of_decide_eq_true Z16
      obtain ⟨ad0, e0, hx0, hx1⟩ := at_T31 HR0_2.1 x5_2 p0 q0
      cases e0
      replace hx0 := (HB.1.cell (World.block_lt_of_cell? w _ hx0)).trans hx0
      replace hx1 := (HB.1.cell (World.block_lt_of_cell? w _ hx1)).trans hx1
      replace p0 := eq_true p0
      replace q0 := eq_true q0
      have := sqY3 B2
      have p1 : 0 ≤ (x5_2 : Int) := of_decide_eq_true Z16
      have q1 : x5_2 < (l1_2.length : Int) := of_decide_eq_true Z16
      obtain ⟨ad1, e1, hx2, hx3⟩ := at_T31 HR1_2.1 x5_2 p1 q1
      cases e1
      replace hx2 := (HB.1.cell (World.block_lt_of_cell? w _ hx2)).trans hx2
      replace hx3 := (HB.1.cell (World.block_lt_of_cell? w _ hx3)).trans hx3
      replace p1 := eq_true p1
      replace q1 := eq_true q1
      go_wp2
      repeat (go_quiet (fail); try go_wp2)
      go_roundg k2
      case measure => have := HJ2.out; have := HK2.out; omega
      case rel => exact ⟨(wrap64 (x5_2 + 1)), Z1, H', ⟨Z21 HK2⟩, ⟨sqK B0⟩, ⟨sqK B2⟩, ⟨sqB2 HB E0 E1⟩⟩
     obtain rfl := sqo H
     have := sqn2 N0 N1
     have := sqY3 B0
     go_wp2
     repeat (go_quiet (fail); try go_wp2)
     go_ret
     exact ⟨Z5, sqB2 HB E0 E1⟩

def F60.f (a0 : Int) : Option (Bool) := if a0 ≥ (-1000000) then (some (decide (a0 ≤ 1000000))) else (some false)
theorem F60.c (a0 : Int) (r : Bool) (w : World) (H : F60.f a0 = some r) :
  Calls prog 116 #[.int .i64 a0] w fun e w' => e = .returned (.bool r) ∧ Drawn0 w w' := by
 unfold F60.f at H
 obtain ⟨c2b0, H⟩ | ⟨c2b0, H⟩ := sqi3h H
 ·obtain rfl := sqo H
  go_enter func116, ntmps116
  go_wp2
  go_ret
  exact ⟨Z1, Z15⟩
 obtain rfl := sqo H
 go_enter func116, ntmps116
 go_wp2
 go_ret
 exact ⟨Z1, Z15⟩

def F20.l0 : Nat → Int → Int → Option (Int)
 | 0, _, _ => none
 | k + 1, x0, x1 => if x1 = 0 then (some (mx x0 (wrap64 (-x0)))) else (F20.l0 k x1 (Int.tmod x0 x1))
def F20.f (k : Nat) (a0 : Int) (a1 : Int) : Option (Int) := F20.l0 k a0 a1
theorem F20.c (k : Nat) (a0 : Int) (a1 : Int) (r : Int) (w : World) (H : F20.f k a0 a1 = some r) :
  Calls prog 117 #[.int .i64 a0, .int .i64 a1] w fun e w' => e = .returned (.int .i64 r) ∧ Below w.heap.size w w' := by
 have HB := sqh w
 unfold F20.f at H
 have H' := sqa H
 clear H
 go_enter func117, ntmps117
 go_wp2
 repeat (go_quiet (fail); try go_wp2)
 go_loopg [0, 1] k (fun kq v0 v1 w' => ∃ (x0_1 : Int) (x1_1 : Int), v0 = .int .i64 x0_1 ∧ v1 = .int .i64 x1_1 ∧ Aside0 (F20.l0 kq x0_1 x1_1 = some r) ∧ Aside0 (kq ≤ k) ∧ Aside0 (Below w.heap.size w w'))
 case atStart => exact ⟨(a0), (a1), Z1, Z1, H', ⟨Nat.le_refl _⟩, ⟨sqB HB⟩⟩
 case round =>
  clear H'
  obtain ⟨x0_1, x1_1, rfl, rfl, HA, HK1, HB⟩ := hrel
  cases gk with
  | zero => exact absurd HA.out (by simp [F20.l0])
  | succ k1 =>
   have H := HA.out
   clear HA
   simp only [F20.l0] at H
   obtain ⟨c3b0, c3b1, H⟩ | ⟨c3b0, c3b1, c3, H⟩ := sqi4 H
   ·obtain ⟨ji4, hji4⟩ : ∃ j_ : Int, (mx x0_1 (wrap64 (-x0_1))) = j_ := ⟨_, rfl⟩
    replace H : (some ji4) = some r := by first | (rw [hji4] at H; exact H) | (simp only [hji4] at H ⊢; exact H)
    have hji4_ : (if x0_1 < (wrap64 (-x0_1)) then (wrap64 (-x0_1)) else x0_1) = ji4 := hji4
    obtain rfl := sqo H
    go_wp2
    repeat (go_quiet (fail); try go_wp2)
    go_ret
    exact ⟨by first | rfl | (simp [errP_none, errP_some] <;> rfl) | (simp only [← hji4]; first | rfl | (simp [errP_none, errP_some] <;> rfl)) | (simp [*, errP_none, errP_some] <;> rfl), sqB HB⟩
   have H' := sqa H
   clear H
   go_wp2
   repeat (go_quiet (fail); try go_wp2)
   go_roundg k1
   case measure => have := HK1.out; omega
   case rel => exact ⟨(x1_1), (Int.tmod x0_1 x1_1), Z1, Z1, H', ⟨Z2 HK1⟩, ⟨sqB HB⟩⟩

def F3.f (k : Nat) (a0_0 : Int) (a0_1 : Int) : Option (Bool) := (F60.f a0_0).bind fun t0 => (if t0 = true then (if a0_1 < 0 then (some false) else (if a0_1 > 1000000 then (some false) else (if a0_1 = 0 then (if a0_0 = 1 then ((F20.f k a0_0 a0_1).bind fun t1 => (some (t1 == 1))) else (some false)) else ((F20.f k a0_0 a0_1).bind fun t2 => (some (t2 == 1)))))) else (some false))
theorem F3.c (k : Nat) (a0_0 : Int) (a0_1 : Int) (r : Bool) (w : World) (H : F3.f k a0_0 a0_1 = some r) :
  Calls prog 70 #[.agg #[.int .i64 a0_0, .int .i64 a0_1]] w fun e w' => e = .returned (.bool r) ∧ Below w.heap.size w w' := by
 have hu31 := underlying31
 have HB := sqh w
 unfold F3.f at H
 obtain ⟨t0, A2, H⟩ := sqD H
 obtain rfl | rfl := sqt t0
 ·rw [if_pos rfl] at H
  obtain ⟨c4b0, H⟩ | ⟨c4b0, H⟩ := sqi3 H
  ·obtain rfl := sqo H
   go_enter func70, ntmps70
   go_wp2_with (first | ((with_reducible refine sqd 1 rfl ?_); refine sqx0 w (sqB HB) #[.int .i64 a0_0, .int .i64 a0_1] 31 fun g0 w5 B0 E0 HB => ?_; have := sqY2 B0) | ((with_reducible refine sqc 116 rfl ?_); refine sqvd (some 5) func116 (F60.c a0_0 true _ A2.1) fun nd => ?_))
   go_ret
   exact ⟨Z5, sqB1 HB E0⟩
  obtain ⟨c7b0, H⟩ | ⟨c7b0, H⟩ := sqi3g H
  ·obtain rfl := sqo H
   go_enter func70, ntmps70
   go_wp2_with (first | ((with_reducible refine sqd 1 rfl ?_); refine sqx0 w (sqB HB) #[.int .i64 a0_0, .int .i64 a0_1] 31 fun g0 w8 B0 E0 HB => ?_; have := sqY2 B0) | ((with_reducible refine sqc 116 rfl ?_); refine sqvd (some 5) func116 (F60.c a0_0 true _ A2.1) fun nd => ?_))
   go_ret
   exact ⟨Z5, sqB1 HB E0⟩
  obtain ⟨c0, c1, H⟩ | ⟨c0, c1, c10, H⟩ := sqi4 H
  ·by_cases c2 : a0_0 = 1
   ·rw [if_pos c2] at H
    have c5 := sqe1 c2
    have c6 := sqn0 c2
    clear c2
    obtain ⟨t1, A0, H⟩ := sqD H
    obtain rfl := sqo H
    go_enter func70, ntmps70
    go_wp2_with (first | ((with_reducible refine sqd 1 rfl ?_); refine sqx0 w (sqB HB) #[.int .i64 a0_0, .int .i64 a0_1] 31 fun g0 w0 B0 E0 HB => ?_; have := sqY2 B0) | ((with_reducible refine sqc 116 rfl ?_); refine sqvd (some 5) func116 (F60.c a0_0 true _ A2.1) fun nd => ?_) | ((with_reducible refine sqc 117 rfl ?_); refine sqv (some 31) func117 (F20.c k a0_0 a0_1 t1 _ A0.1) fun w1 hb => ?_; replace B0 := sqT B0 hb; replace HB := sqS (sqB1 HB E0) hb))
    go_ret
    exact ⟨Z5, sqB1 HB E0⟩
   rw [if_neg c2] at H
   have c5 := sqe0 c2
   have c6 := sqn1 c2
   obtain rfl := sqo H
   go_enter func70, ntmps70
   go_wp2_with (first | ((with_reducible refine sqd 1 rfl ?_); refine sqx0 w (sqB HB) #[.int .i64 a0_0, .int .i64 a0_1] 31 fun g0 w2 B0 E0 HB => ?_; have := sqY2 B0) | ((with_reducible refine sqc 116 rfl ?_); refine sqvd (some 5) func116 (F60.c a0_0 true _ A2.1) fun nd => ?_))
   go_ret
   exact ⟨Z5, sqB1 HB E0⟩
  obtain ⟨t2, A1, H⟩ := sqD H
  obtain rfl := sqo H
  go_enter func70, ntmps70
  go_wp2_with (first | ((with_reducible refine sqd 1 rfl ?_); refine sqx0 w (sqB HB) #[.int .i64 a0_0, .int .i64 a0_1] 31 fun g0 w3 B0 E0 HB => ?_; have := sqY2 B0) | ((with_reducible refine sqc 116 rfl ?_); refine sqvd (some 5) func116 (F60.c a0_0 true _ A2.1) fun nd => ?_) | ((with_reducible refine sqc 117 rfl ?_); refine sqv (some 31) func117 (F20.c k a0_0 a0_1 t2 _ A1.1) fun w4 hb => ?_; replace B0 := sqT B0 hb; replace HB := sqS (sqB1 HB E0) hb))
  go_ret
  exact ⟨Z5, sqB1 HB E0⟩
 rw [if_neg sqF] at H
 obtain rfl := sqo H
 go_enter func70, ntmps70
 go_wp2_with (first | ((with_reducible refine sqd 1 rfl ?_); refine sqx0 w (sqB HB) #[.int .i64 a0_0, .int .i64 a0_1] 31 fun g0 w6 B0 E0 HB => ?_; have := sqY2 B0) | ((with_reducible refine sqc 116 rfl ?_); refine sqvd (some 5) func116 (F60.c a0_0 false _ A2.1) fun nd => ?_))
 go_ret
 exact ⟨Z5, sqB1 HB E0⟩

def F80.f (k : Nat) (a0_0 : Int) (a0_1 : Int) : Option (Bool) := (F3.f k a0_0 a0_1).bind fun t0 => (some t0)
theorem F80.c (k : Nat) (a0_0 : Int) (a0_1 : Int) (r : Bool) (w : World) (H : F80.f k a0_0 a0_1 = some r) :
  Calls prog 69 #[.agg #[.int .i64 a0_0, .int .i64 a0_1]] w fun e w' => e = .returned (.bool r) ∧ Below w.heap.size w w' := by
 have hu31 := underlying31
 have HB := sqh w
 unfold F80.f at H
 obtain ⟨t0, A2, H⟩ := sqD H
 obtain rfl := sqo H
 go_enter func69, ntmps69
 go_wp2_with (first | ((with_reducible refine sqd 1 rfl ?_); refine sqx0 w (sqB HB) #[.int .i64 a0_0, .int .i64 a0_1] 31 fun g0 w3 B0 E0 HB => ?_; have := sqY2 B0) | ((with_reducible refine sqc 70 rfl ?_); refine sqv (some 4) func70 (F3.c k a0_0 a0_1 t0 _ A2.1) fun w5 hb => ?_; replace B0 := sqT B0 hb; replace HB := sqS (sqB1 HB E0) hb))
 go_ret
 exact ⟨Z5, sqB1 HB E0⟩

def F88.f (k : Nat)  : Option (Bool) := (F80.f k 1 2).bind fun t0 => (if t0 = true then ((F80.f k 2 2).bind fun t1 => (some (!t1))) else (some false))
theorem F88.c (k : Nat)  (r : Bool) (w : World) (H : F88.f k  = some r) :
  Calls prog 24 #[] w fun e w' => e = .returned (.bool r) ∧ Below w.heap.size w w' := by
 have hu31 := underlying31
 have HB := sqh w
 unfold F88.f at H
 obtain ⟨t0, A1, H⟩ := sqD H
 obtain rfl | rfl := sqt t0
 ·rw [if_pos rfl] at H
  obtain ⟨t1, A3, H⟩ := sqD H
  obtain rfl := sqo H
  go_enter func24, ntmps24
  go_wp2_with (first | ((with_reducible refine sqc 69 rfl ?_); refine sqv (some 2) func69 (F80.c k 1 2 true _ A1.1) fun w4 hb => ?_; replace HB := sqS (sqB HB) hb) | (go_at_call 69; (with_reducible refine (F80.c k 2 2 t1 _ A3.1).mono ?_); rintro e w5 ⟨rfl, hb⟩; replace HB := sqS (sqB HB) hb))
  go_ret
  exact ⟨Z5, sqB HB⟩
 rw [if_neg sqF] at H
 obtain rfl := sqo H
 go_enter func24, ntmps24
 go_wp2_with (first | ((with_reducible refine sqc 69 rfl ?_); refine sqv (some 2) func69 (F80.c k 1 2 false _ A1.1) fun w6 hb => ?_; replace HB := sqS (sqB HB) hb))
 go_ret
 exact ⟨Z5, sqB HB⟩

def F2.f (a0 : Int) (a1 : Int) (a2 : Int) : Option (Bool) := if a0 ≥ a1 then (some (decide (a0 ≤ a2))) else (some false)
theorem F2.c (a0 : Int) (a1 : Int) (a2 : Int) (r : Bool) (w : World) (H : F2.f a0 a1 a2 = some r) :
  Calls prog 101 #[.int .i64 a0, .int .i64 a1, .int .i64 a2] w fun e w' => e = .returned (.bool r) ∧ Drawn0 w w' := by
 unfold F2.f at H
 obtain ⟨c4b0, H⟩ | ⟨c4b0, H⟩ := sqi3h H
 ·obtain rfl := sqo H
  go_enter func101, ntmps101
  go_wp2
  go_ret
  exact ⟨Z1, Z15⟩
 obtain rfl := sqo H
 go_enter func101, ntmps101
 go_wp2
 go_ret
 exact ⟨Z1, Z15⟩

def F14.l0 : Nat → Int → Int → Option (Int)
 | 0, _, _ => none
 | k + 1, x0, x1 => if x1 > 0 then (if x1 = 0 then (none) else (F14.l0 k x1 (Int.tmod x0 x1))) else (some x0)
def F14.f (k : Nat) (a0 : Int) (a1 : Int) : Option (Int) := F14.l0 k (mx a0 (wrap64 (-a0))) (mx a1 (wrap64 (-a1)))
theorem F14.c (k : Nat) (a0 : Int) (a1 : Int) (r : Int) (w : World) (H : F14.f k a0 a1 = some r) :
  Calls prog 121 #[.int .i64 a0, .int .i64 a1] w fun e w' => e = .returned (.int .i64 r) ∧ Below w.heap.size w w' := by
 have HB := sqh w
 unfold F14.f at H
 obtain ⟨ji3, hji3⟩ : ∃ j_ : Int, (mx a0 (wrap64 (-a0))) = j_ := ⟨_, rfl⟩
 replace H : (F14.l0 k ji3 (mx a1 (wrap64 (-a1)))) = some r := by first | (rw [hji3] at H; exact H) | (simp only [hji3] at H ⊢; exact H)
 have hji3_ : (if a0 < (wrap64 (-a0)) then (wrap64 (-a0)) else a0) = ji3 := hji3
 obtain ⟨ji4, hji4⟩ : ∃ j_ : Int, (mx a1 (wrap64 (-a1))) = j_ := ⟨_, rfl⟩
 replace H : (F14.l0 k ji3 ji4) = some r := by first | (rw [hji4] at H; exact H) | (simp only [hji4] at H ⊢; exact H)
 have hji4_ : (if a1 < (wrap64 (-a1)) then (wrap64 (-a1)) else a1) = ji4 := hji4
 have H' := sqa H
 clear H
 go_enter func121, ntmps121
 go_wp2
 go_loopg [0, 1] k (fun kq v0 v1 w' => ∃ (x0_1 : Int) (x1_1 : Int), v0 = .int .i64 x0_1 ∧ v1 = .int .i64 x1_1 ∧ Aside0 (F14.l0 kq x0_1 x1_1 = some r) ∧ Aside0 (kq ≤ k) ∧ Aside0 (Below w.heap.size w w'))
 case atStart => exact ⟨(ji3), (ji4), (by first | rfl | (simp; done) | (simp only [← hji3] <;> (first | rfl | simp)) | (simp [*]; done)), (by first | rfl | (simp; done) | (simp only [← hji4] <;> (first | rfl | simp)) | (simp [*]; done)), H', ⟨Nat.le_refl _⟩, ⟨sqB HB⟩⟩
 case round =>
  clear H'
  obtain ⟨x0_1, x1_1, rfl, rfl, HA, HK1, HB⟩ := hrel
  cases gk with
  | zero => exact absurd HA.out (by simp [F14.l0])
  | succ k1 =>
   have H := HA.out
   clear HA
   simp only [F14.l0] at H
   obtain ⟨c5b0, H⟩ | ⟨c5b0, H⟩ := sqi3g H
   ·by_cases c6 : x1_1 = 0
    ·rw [if_pos c6] at H
     exact absurd H (by simp)
    rw [if_neg c6] at H
    have c6b0 : (x1_1 == 0) = false := sqe0 c6
    have c6b1 : (x1_1 != 0) = true := sqn1 c6
    have H' := sqa H
    clear H
    go_wp2
    go_roundg k1
    case measure => have := HK1.out; omega
    case rel => exact ⟨(x1_1), (Int.tmod x0_1 x1_1), Z1, Z1, H', ⟨Z2 HK1⟩, ⟨sqB HB⟩⟩
   obtain rfl := sqo H
   go_wp2
   go_ret
   exact ⟨by first | rfl | (simp [errP_none, errP_some] <;> rfl) | (simp only [← hji3, ← hji4]; first | rfl | (simp [errP_none, errP_some] <;> rfl)) | (simp [*, errP_none, errP_some] <;> rfl), sqB HB⟩

def F0.f (k : Nat) (a0_0 : Int) (a0_1 : Int) : Option (Bool) := (F2.f a0_0 (-1000000) 1000000).bind fun t0 => (if t0 = true then ((F2.f a0_1 0 1000000).bind fun t1 => (if t1 = true then ((F14.f k a0_0 a0_1).bind fun t116 => (if t116 = 1 then (if a0_1 > 0 then (some true) else (some (a0_0 == 1))) else (some false))) else (some false))) else (some false))
theorem F0.c (k : Nat) (a0_0 : Int) (a0_1 : Int) (r : Bool) (w : World) (H : F0.f k a0_0 a0_1 = some r) :
  Calls prog 77 #[.agg #[.int .i64 a0_0, .int .i64 a0_1]] w fun e w' => e = .returned (.bool r) ∧ Below w.heap.size w w' := by
 have hu31 := underlying31
 have HB := sqh w
 unfold F0.f at H
 obtain ⟨t0, A2, H⟩ := sqD H
 obtain rfl | rfl := sqt t0
 ·rw [if_pos rfl] at H
  obtain ⟨t1, A4, H⟩ := sqD H
  obtain rfl | rfl := sqt t1
  ·rw [if_pos rfl] at H
   obtain ⟨t116, A6, H⟩ := sqD H
   obtain ⟨c7b0, c7b1, H⟩ | ⟨c7b0, c7b1, c7, H⟩ := sqi4 H
   ·by_cases c8 : a0_1 > 0
    ·rw [if_pos c8] at H
     have c8b0 : decide (0 < a0_1) = true := decide_eq_true c8
     clear c8
     obtain rfl := sqo H
     go_enter func77, ntmps77
     go_wp2_with (first | ((with_reducible refine sqd 1 rfl ?_); refine sqx0 w (sqB HB) #[.int .i64 a0_0, .int .i64 a0_1] 31 fun g0 w9 B0 E0 HB => ?_; have := sqY2 B0) | ((with_reducible refine sqc 101 rfl ?_); refine sqvd (some 5) func101 (F2.c a0_0 (-1000000) 1000000 true _ A2.1) fun nd => ?_) | (go_at_call 101; (with_reducible refine (F2.c a0_1 0 1000000 true _ A4.1).mono ?_); rintro e w' ⟨rfl, ⟨nd, rfl⟩⟩) | ((with_reducible refine sqc 121 rfl ?_); refine sqv (some 17) func121 (F14.c k a0_0 a0_1 t116 _ A6.1) fun w0 hb => ?_; replace B0 := sqT B0 hb; replace HB := sqS (sqB1 HB E0) hb; have := sqY2 B0))
     go_ret
     exact ⟨Z5, sqB1 HB E0⟩
    rw [if_neg c8] at H
    have c8b0 : decide (0 < a0_1) = false := decide_eq_false c8
    clear c8
    obtain rfl := sqo H
    go_enter func77, ntmps77
    go_wp2_with (first | ((with_reducible refine sqd 1 rfl ?_); refine sqx0 w (sqB HB) #[.int .i64 a0_0, .int .i64 a0_1] 31 fun g0 w1 B0 E0 HB => ?_; have := sqY2 B0) | ((with_reducible refine sqc 101 rfl ?_); refine sqvd (some 5) func101 (F2.c a0_0 (-1000000) 1000000 true _ A2.1) fun nd => ?_) | (go_at_call 101; (with_reducible refine (F2.c a0_1 0 1000000 true _ A4.1).mono ?_); rintro e w' ⟨rfl, ⟨nd, rfl⟩⟩) | ((with_reducible refine sqc 121 rfl ?_); refine sqv (some 17) func121 (F14.c k a0_0 a0_1 t116 _ A6.1) fun w2 hb => ?_; replace B0 := sqT B0 hb; replace HB := sqS (sqB1 HB E0) hb; have := sqY2 B0))
    go_ret
    exact ⟨Z5, sqB1 HB E0⟩
   obtain rfl := sqo H
   go_enter func77, ntmps77
   go_wp2_with (first | ((with_reducible refine sqd 1 rfl ?_); refine sqx0 w (sqB HB) #[.int .i64 a0_0, .int .i64 a0_1] 31 fun g0 w3 B0 E0 HB => ?_; have := sqY2 B0) | ((with_reducible refine sqc 101 rfl ?_); refine sqvd (some 5) func101 (F2.c a0_0 (-1000000) 1000000 true _ A2.1) fun nd => ?_) | (go_at_call 101; (with_reducible refine (F2.c a0_1 0 1000000 true _ A4.1).mono ?_); rintro e w' ⟨rfl, ⟨nd, rfl⟩⟩) | ((with_reducible refine sqc 121 rfl ?_); refine sqv (some 17) func121 (F14.c k a0_0 a0_1 t116 _ A6.1) fun w4 hb => ?_; replace B0 := sqT B0 hb; replace HB := sqS (sqB1 HB E0) hb))
   go_ret
   exact ⟨Z5, sqB1 HB E0⟩
  rw [if_neg sqF] at H
  obtain rfl := sqo H
  go_enter func77, ntmps77
  go_wp2_with (first | ((with_reducible refine sqd 1 rfl ?_); refine sqx0 w (sqB HB) #[.int .i64 a0_0, .int .i64 a0_1] 31 fun g0 w5 B0 E0 HB => ?_; have := sqY2 B0) | ((with_reducible refine sqc 101 rfl ?_); refine sqvd (some 5) func101 (F2.c a0_0 (-1000000) 1000000 true _ A2.1) fun nd => ?_) | (go_at_call 101; (with_reducible refine (F2.c a0_1 0 1000000 false _ A4.1).mono ?_); rintro e w' ⟨rfl, ⟨nd, rfl⟩⟩))
  go_ret
  exact ⟨Z5, sqB1 HB E0⟩
 rw [if_neg sqF] at H
 obtain rfl := sqo H
 go_enter func77, ntmps77
 go_wp2_with (first | ((with_reducible refine sqd 1 rfl ?_); refine sqx0 w (sqB HB) #[.int .i64 a0_0, .int .i64 a0_1] 31 fun g0 w6 B0 E0 HB => ?_; have := sqY2 B0) | ((with_reducible refine sqc 101 rfl ?_); refine sqvd (some 5) func101 (F2.c a0_0 (-1000000) 1000000 false _ A2.1) fun nd => ?_))
 go_ret
 exact ⟨Z5, sqB1 HB E0⟩

end Go.Proofs.YtofmlbgfcohhoaaGreatDoor.PFnDeskSay
