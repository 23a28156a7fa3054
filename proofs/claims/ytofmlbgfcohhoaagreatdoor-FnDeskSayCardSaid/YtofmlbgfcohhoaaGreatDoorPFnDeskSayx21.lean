import Derived.Test.YtofmlbgfcohhoaaGreatDoorPFnDeskSayx3
set_option maxHeartbeats 8000000
set_option maxRecDepth 100000
namespace Go.Proofs.YtofmlbgfcohhoaaGreatDoor.PFnDeskSay
open Go.RowKit Go.Proofs.YtofmlbgfcohhoaaGreatDoorW.PrintWords Go.Proofs.YtofmlbgfcohhoaaGreatDoorW.PrintLast Go.Proofs.YtofmlbgfcohhoaaGreatDoorW.PrintMore Go.Proofs.YtofmlbgfcohhoaaGreatDoor.Lib Go.Proofs.Tryz
attribute [local go_sem] max2_int min2_int max_two min_two max_three min_three max_four min_four   -- for this text's walks alone
set_option linter.unusedVariables false
set_option linter.unusedSimpArgs false

def F83.f (k : Nat) (a0_0 : Int) (a0_1 : Int) : Option (Int) := (F0.f k a0_0 a0_1).bind fun t0 => (if t0 = true then (if (Int.tmod a0_0 2) = 0 then (some 2) else (some 1)) else (some (-1)))
theorem F83.c (k : Nat) (a0_0 : Int) (a0_1 : Int) (r : Int) (w : World) (H : F83.f k a0_0 a0_1 = some r) :
  Calls prog 96 #[.agg #[.int .i64 a0_0, .int .i64 a0_1]] w fun e w' => e = .returned (.int .i64 r) ∧ Below w.heap.size w w' := by
 have hu31 := underlying31
 have HB := sqh w
 unfold F83.f at H
 obtain ⟨t0, A2, H⟩ := sqD H
 obtain rfl | rfl := sqt t0
 ·rw [if_pos rfl] at H
  obtain ⟨c4b0, c4b1, H⟩ | ⟨c4b0, c4b1, c4, H⟩ := sqi4 H
  ·obtain rfl := sqo H
   go_enter func96, ntmps96
   go_wp2_with (first | ((with_reducible refine sqd 1 rfl ?_); refine sqx0 w (sqB HB) #[.int .i64 a0_0, .int .i64 a0_1] 31 fun g0 w5 B0 E0 HB => ?_; have := sqY2 B0) | ((with_reducible refine sqc 77 rfl ?_); refine sqv (some 4) func77 (F0.c k a0_0 a0_1 true _ A2.1) fun w7 hb => ?_; replace B0 := sqT B0 hb; replace HB := sqS (sqB1 HB E0) hb; have := sqY2 B0))
   go_ret
   exact ⟨Z5, sqB1 HB E0⟩
  obtain rfl := sqo H
  go_enter func96, ntmps96
  go_wp2_with (first | ((with_reducible refine sqd 1 rfl ?_); refine sqx0 w (sqB HB) #[.int .i64 a0_0, .int .i64 a0_1] 31 fun g0 w9 B0 E0 HB => ?_; have := sqY2 B0) | ((with_reducible refine sqc 77 rfl ?_); refine sqv (some 4) func77 (F0.c k a0_0 a0_1 true _ A2.1) fun w0 hb => ?_; replace B0 := sqT B0 hb; replace HB := sqS (sqB1 HB E0) hb; have := sqY2 B0))
  go_ret
  exact ⟨Z5, sqB1 HB E0⟩
 rw [if_neg sqF] at H
 obtain rfl := sqo H
 go_enter func96, ntmps96
 go_wp2_with (first | ((with_reducible refine sqd 1 rfl ?_); refine sqx0 w (sqB HB) #[.int .i64 a0_0, .int .i64 a0_1] 31 fun g0 w1 B0 E0 HB => ?_; have := sqY2 B0) | ((with_reducible refine sqc 77 rfl ?_); refine sqv (some 4) func77 (F0.c k a0_0 a0_1 false _ A2.1) fun w2 hb => ?_; replace B0 := sqT B0 hb; replace HB := sqS (sqB1 HB E0) hb))
 go_ret
 exact ⟨Z5, sqB1 HB E0⟩

def F51.j0 : Nat → Bool → Int → Int → Option (Int × Int × Bool)
 | 0, _, _, _ => none
 | k + 1, x0, x1, x2 => if x0 = true then (some (0, 0, false)) else (if x1 = 0 then (some (0, 1, true)) else (if (mx x1 (wrap64 (-x1))) = 0 then (none) else (if x1 < 0 then (some (mx x1 (wrap64 (-x1)), Int.tmod (wrap64 ((mx x1 (wrap64 (-x1))) - (Int.tmod x2 (mx x1 (wrap64 (-x1)))))) (mx x1 (wrap64 (-x1))), true)) else (some (mx x1 (wrap64 (-x1)), Int.tmod x2 (mx x1 (wrap64 (-x1))), true)))))
def F51.f (k : Nat) (a0_0 : Int) (a0_1 : Int) : Option (Int × Int × Bool) := (F0.f k a0_0 a0_1).bind fun t0 => (if t0 = true then ((F2.f a0_0 (-60) 60).bind fun t1 => (F51.j0 k (!t1) a0_0 a0_1)) else (F51.j0 k true a0_0 a0_1))
theorem F51.c (k : Nat) (a0_0 : Int) (a0_1 : Int) (r1 : Int) (r2 : Int) (r3 : Bool) (w : World) (H : F51.f k a0_0 a0_1 = some (r1, r2, r3)) :
  Calls prog 97 #[.agg #[.int .i64 a0_0, .int .i64 a0_1]] w fun e w' => e = .returned (.tuple #[.agg #[.int .i64 r1, .int .i64 r2], .bool r3]) ∧ Below w.heap.size w w' := by
 have hu31 := underlying31
 have hu116 := underlying116
 have HB := sqh w
 unfold F51.f at H
 have HC2 := sqa H
 clear H
 go_enter func97, ntmps97
 go_upto_region 1 with (first | ((with_reducible refine sqd 1 rfl ?_); refine sqx0 w (sqB HB) #[.int .i64 a0_0, .int .i64 a0_1] 31 fun g0 w3 B0 E0 HB => ?_) | ((with_reducible refine sqd 2 rfl ?_); refine sqx1 w (sqB1 HB E0) #[.int .i64 0, .int .i64 0] 116 B0 fun g1 w4 B2 E1 HB N0 N1 B0 => ?_))
 (try simp only [Act.put, List.setIfInBounds_toArray, List.set_cons_zero, List.set_cons_succ])
 go_cut [14] (fun v0 wc => ∃ (kq : Nat) (x0 : Bool), v0 = .bool x0 ∧ Aside0 (F51.j0 kq x0 a0_0 a0_1 = some (r1, r2, r3)) ∧ Aside0 (kq ≤ k) ∧ Aside0 (wc.heap[g0]? = some (.cells #[.int .i64 a0_0, .int .i64 a0_1] 31 (0, 0))) ∧ Aside0 (wc.heap[g1]? = some (.cells #[.int .i64 0, .int .i64 0] 116 (0, 0))) ∧ Aside0 (Below w.heap.size w wc))
 case first =>
  have H := HC2.1
  clear HC2
  obtain ⟨t0, A5, H⟩ := sqD H
  obtain rfl | rfl := sqt t0
  ·rw [if_pos rfl] at H
   obtain ⟨t1, A7, H⟩ := sqD H
   have H' := sqa H
   clear H
   have := sqn2 N0 N1
   have := sqY2 B0
   go_wp2_with (first | ((with_reducible refine sqc 77 rfl ?_); refine sqv (some 7) func77 (F0.c k a0_0 a0_1 true _ A5.1) fun w0 hb => ?_; obtain ⟨B0, B2⟩ := sqT2 hb B0 B2; replace HB := sqS (sqB2 HB E0 E1) hb; have := sqY2 B0) | (go_at_call 101; (with_reducible refine (F2.c a0_0 (-60) 60 t1 _ A7.1).mono ?_); rintro e w' ⟨rfl, ⟨nd, rfl⟩⟩))
   go_meet
   case rel => exact ⟨_, (!t1), Z1, H', ⟨Z11⟩, ⟨sqK B0⟩, ⟨sqK B2⟩, ⟨sqB2 HB E0 E1⟩⟩
  rw [if_neg sqF] at H
  have H' := sqa H
  clear H
  have := sqn2 N0 N1
  have := sqY2 B0
  go_wp2_with (first | ((with_reducible refine sqc 77 rfl ?_); refine sqv (some 7) func77 (F0.c k a0_0 a0_1 false _ A5.1) fun w1 hb => ?_; obtain ⟨B0, B2⟩ := sqT2 hb B0 B2; replace HB := sqS (sqB2 HB E0 E1) hb))
  go_meet
  case rel => exact ⟨_, (true), Z1, H', ⟨Z11⟩, ⟨sqK B0⟩, ⟨sqK B2⟩, ⟨sqB2 HB E0 E1⟩⟩
 case rest =>
  clear HC2
  obtain ⟨kq, x0, rfl, HA, HJ1, B0, B2, HB⟩ := hcut
  cases kq with
  | zero => exact absurd HA.out (by simp [F51.j0])
  | succ kj1 =>
   have H := HA.out
   clear HA
   simp only [F51.j0] at H
   obtain rfl | rfl := sqt x0
   ·rw [if_pos rfl] at H
    obtain ⟨rfl, rfl, rfl⟩ := sqO3 H
    have := sqn2 N1 N0
    have := sqY2 B2
    go_wp2
    refine sqE g1 116 #[.int .i64 0, .int .i64 0] (Z12 B2) underlying116 ?_
    exact ⟨Z5, sqB2 HB E0 E1⟩
   rw [if_neg sqF] at H
   obtain ⟨c2, c3, H⟩ | ⟨c2, c3, c1, H⟩ := sqi4 H
   ·obtain ⟨rfl, rfl, rfl⟩ := sqO3 H
    have := sqn2 N0 N1
    have := sqY2 B0
    have := sqY2 B2
    go_wp2
    refine sqE g1 116 #[.int .i64 0, .int .i64 1] (Z12 B2) underlying116 ?_
    exact ⟨Z5, sqB2 HB E0 E1⟩
   obtain ⟨ji22, hji22⟩ : ∃ j_ : Int, (mx a0_0 (wrap64 (-a0_0))) = j_ := ⟨_, rfl⟩
   replace H : (if (ji22) = 0 then (none) else (if a0_0 < 0 then (some (ji22, Int.tmod (wrap64 ((ji22) - (Int.tmod a0_1 (ji22)))) (ji22), true)) else (some (ji22, Int.tmod a0_1 (ji22), true)))) = some (r1, r2, r3) := by first | (rw [hji22] at H; exact H) | (simp only [hji22] at H ⊢; exact H)
   have hji0 : (if a0_0 < (wrap64 (-a0_0)) then (wrap64 (-a0_0)) else a0_0) = ji22 := hji22
   obtain ⟨c4, H⟩ | ⟨c4, H⟩ := sqi2 H
   ·exact absurd H (by simp)
   have c5 := sqe0 c4
   have c7 := sqn1 c4
   obtain ⟨c9, H⟩ | ⟨c9, H⟩ := sqi3 H
   ·obtain ⟨rfl, rfl, rfl⟩ := sqO3 H
    have := sqn2 N0 N1
    have := sqY2 B0
    have := sqY2 B2
    go_wp2
    refine sqE g1 116 #[.int .i64 ji22, .int .i64 (Int.tmod (wrap64 ((ji22) - (Int.tmod a0_1 (ji22)))) (ji22))] (Z57 B2) underlying116 ?_
    exact ⟨Z58, sqB2 HB E0 E1⟩
   obtain ⟨rfl, rfl, rfl⟩ := sqO3 H
   have := sqn2 N0 N1
   have := sqY2 B0
   have := sqY2 B2
   go_wp2
   refine sqE g1 116 #[.int .i64 ji22, .int .i64 (Int.tmod a0_1 (ji22))] (Z57 B2) underlying116 ?_
   exact ⟨Z58, sqB2 HB E0 E1⟩

def F68.f (k : Nat) (a0_0 : Int) (a0_1 : Int) : Option (Bool) := if a0_0 = 0 then (some (a0_1 == 1)) else (if a0_0 = 1 then (some (a0_1 == 0)) else ((F2.f a0_0 2 60).bind fun t0 => (if t0 = true then ((F2.f a0_1 1 (wrap64 (a0_0 - 1))).bind fun t1 => (if t1 = true then ((F14.f k a0_0 a0_1).bind fun t2 => (some (t2 == 1))) else (some false))) else (some false))))
theorem F68.c (k : Nat) (a0_0 : Int) (a0_1 : Int) (r : Bool) (w : World) (H : F68.f k a0_0 a0_1 = some r) :
  Calls prog 132 #[.agg #[.int .i64 a0_0, .int .i64 a0_1]] w fun e w' => e = .returned (.bool r) ∧ Below w.heap.size w w' := by
 have hu116 := underlying116
 have HB := sqh w
 unfold F68.f at H
 obtain ⟨c2b0, c2b1, H⟩ | ⟨c2b0, c2b1, c2, H⟩ := sqi4 H
 ·obtain rfl := sqo H
  go_enter func132, ntmps132
  go_wp2_with (first | ((with_reducible refine sqd 1 rfl ?_); refine sqx0 w (sqB HB) #[.int .i64 a0_0, .int .i64 a0_1] 116 fun g0 w3 B0 E0 HB => ?_; have := sqY2 B0))
  go_ret
  exact ⟨Z5, sqB1 HB E0⟩
 obtain ⟨c5b0, c5b1, H⟩ | ⟨c5b0, c5b1, c5, H⟩ := sqi4 H
 ·obtain rfl := sqo H
  go_enter func132, ntmps132
  go_wp2_with (first | ((with_reducible refine sqd 1 rfl ?_); refine sqx0 w (sqB HB) #[.int .i64 a0_0, .int .i64 a0_1] 116 fun g0 w6 B0 E0 HB => ?_; have := sqY2 B0))
  go_ret
  exact ⟨Z5, sqB1 HB E0⟩
 obtain ⟨t0, A8, H⟩ := sqD H
 obtain rfl | rfl := sqt t0
 ·rw [if_pos rfl] at H
  obtain ⟨t1, A0, H⟩ := sqD H
  obtain rfl | rfl := sqt t1
  ·rw [if_pos rfl] at H
   obtain ⟨t2, A1, H⟩ := sqD H
   obtain rfl := sqo H
   go_enter func132, ntmps132
   go_wp2_with (first | ((with_reducible refine sqd 1 rfl ?_); refine sqx0 w (sqB HB) #[.int .i64 a0_0, .int .i64 a0_1] 116 fun g0 w0 B0 E0 HB => ?_; have := sqY2 B0) | ((with_reducible refine sqc 101 rfl ?_); refine sqvd (some 19) func101 (F2.c a0_0 2 60 true _ A8.1) fun nd => ?_) | (go_at_call 101; (with_reducible refine (F2.c a0_1 1 (wrap64 (a0_0 - 1)) true _ A0.1).mono ?_); rintro e w' ⟨rfl, ⟨nd, rfl⟩⟩) | (go_at_call 121; (with_reducible refine (F14.c k a0_0 a0_1 t2 _ A1.1).mono ?_); rintro e w1 ⟨rfl, hb⟩; replace B0 := sqT B0 hb; replace HB := sqS (sqB1 HB E0) hb))
   go_ret
   exact ⟨Z5, sqB1 HB E0⟩
  rw [if_neg sqF] at H
  obtain rfl := sqo H
  go_enter func132, ntmps132
  go_wp2_with (first | ((with_reducible refine sqd 1 rfl ?_); refine sqx0 w (sqB HB) #[.int .i64 a0_0, .int .i64 a0_1] 116 fun g0 w2 B0 E0 HB => ?_; have := sqY2 B0) | ((with_reducible refine sqc 101 rfl ?_); refine sqvd (some 19) func101 (F2.c a0_0 2 60 true _ A8.1) fun nd => ?_) | (go_at_call 101; (with_reducible refine (F2.c a0_1 1 (wrap64 (a0_0 - 1)) false _ A0.1).mono ?_); rintro e w' ⟨rfl, ⟨nd, rfl⟩⟩))
  go_ret
  exact ⟨Z5, sqB1 HB E0⟩
 rw [if_neg sqF] at H
 obtain rfl := sqo H
 go_enter func132, ntmps132
 go_wp2_with (first | ((with_reducible refine sqd 1 rfl ?_); refine sqx0 w (sqB HB) #[.int .i64 a0_0, .int .i64 a0_1] 116 fun g0 w4 B0 E0 HB => ?_; have := sqY2 B0) | ((with_reducible refine sqc 101 rfl ?_); refine sqvd (some 19) func101 (F2.c a0_0 2 60 false _ A8.1) fun nd => ?_))
 go_ret
 exact ⟨Z5, sqB1 HB E0⟩

def F53.l0 : Nat → Int → Int → Int → Option (Int)
 | 0, _, _, _ => none
 | k + 1, x0, x1, x5 => if x5 < x1 then (if x1 = 0 then (none) else (if (Int.tmod (wrap64 (x5 * x0)) x1) = 1 then (some x5) else (F53.l0 k x0 x1 (wrap64 (x5 + 1))))) else (some 0)
def F53.f (k : Nat) (a0 : Int) (a1 : Int) : Option (Int) := F53.l0 k a0 a1 1
theorem F53.c (k : Nat) (a0 : Int) (a1 : Int) (r : Int) (w : World) (H : F53.f k a0 a1 = some r) :
  Calls prog 133 #[.int .i64 a0, .int .i64 a1] w fun e w' => e = .returned (.int .i64 r) ∧ Drawn0 w w' := by
 unfold F53.f at H
 have H' := sqa H
 clear H
 go_enter func133, ntmps133
 go_wp2
 go_loopg [5] k (fun kq v5 w' => ∃ (x5_1 : Int), v5 = .int .i64 x5_1 ∧ Aside0 (F53.l0 kq a0 a1 x5_1 = some r) ∧ Aside0 (kq ≤ k) ∧ Drawn0 w w')
 case atStart => exact ⟨(1), Z1, H', ⟨Nat.le_refl _⟩, Z15⟩
 case round =>
  clear H'
  obtain ⟨x5_1, rfl, HA, HK1, ⟨m1, rfl⟩⟩ := hrel
  cases gk with
  | zero => exact absurd HA.out (by simp [F53.l0])
  | succ k1 =>
   have H := HA.out
   clear HA
   simp only [F53.l0] at H
   obtain ⟨c3b0, H⟩ | ⟨c3b0, H⟩ := sqi3 H
   ·by_cases c4 : a1 = 0
    ·rw [if_pos c4] at H
     exact absurd H (by simp)
    rw [if_neg c4] at H
    have c4b0 : (a1 == 0) = false := sqe0 c4
    have c4b1 : (a1 != 0) = true := sqn1 c4
    obtain ⟨c5b0, c5b1, H⟩ | ⟨c5b0, c5b1, c5, H⟩ := sqi4 H
    ·obtain rfl := sqo H
     go_wp2
     go_ret
     exact ⟨Z1, Z15⟩
    have H' := sqa H
    clear H
    go_wp2
    go_roundg k1
    case measure => have := HK1.out; omega
    case rel => exact ⟨(wrap64 (x5_1 + 1)), Z1, H', ⟨Z2 HK1⟩, Z15⟩
   obtain rfl := sqo H
   go_wp2
   go_ret
   exact ⟨Z1, Z15⟩

def F50.f (k : Nat) (a0_0 : Int) (a0_1 : Int) : Option (Int × Int × Bool) := (F68.f k a0_0 a0_1).bind fun t0 => (if t0 = true then (if a0_0 < 2 then (some (a0_0, a0_1, true)) else ((F53.f k a0_1 a0_0).bind fun t1 => (some (a0_0, mn a0_1 t1, true)))) else (some (0, 0, false)))
def F50.T5 : Bool × List (List Nat × List Nat) := (true, [([], []), ([0], [0]), ([], []), ([2], [2]), ([], []), ([4], [4]), ([], []), ([6], [6]), ([5, 7], [5, 7]), ([3, 8], [3, 8]), ([1, 9], [1, 9]), ([10, 8, 0, 1, 2, 3, 4, 5, 6, 7, 8, 9, 10], [10]), ([11, 0, 1, 2, 3, 4, 5, 6, 7, 8, 9, 10, 11], [])])
def F50.B5 : List Nat := [0, 1, 0, 4, 0, 16, 0, 64, 240, 508, 1023, 2047, 4095]
theorem F50.tab5 : rtab .any (opsOf f98 5) = F50.T5 := by kernel_rfl
theorem F50.bits5 : waitsOk F50.T5.2 F50.B5 = true := by kernel_rfl
theorem F50.c (k : Nat) (a0_0 : Int) (a0_1 : Int) (r1 : Int) (r2 : Int) (r3 : Bool) (w : World) (H : F50.f k a0_0 a0_1 = some (r1, r2, r3)) :
  Calls prog 98 #[.agg #[.int .i64 a0_0, .int .i64 a0_1]] w fun e w' => e = .returned (.tuple #[.agg #[.int .i64 r1, .int .i64 r2], .bool r3]) ∧ Below w.heap.size w w' := by
 have hu116 := underlying116
 have HB := sqh w
 unfold F50.f at H
 obtain ⟨t0, A2, H⟩ := sqD H
 obtain rfl | rfl := sqt t0
 ·rw [if_pos rfl] at H
  obtain ⟨c4b0, H⟩ | ⟨c4b0, H⟩ := sqi3 H
  ·obtain ⟨rfl, rfl, rfl⟩ := sqO3 H
   go_enter func98, ntmps98
   go_wp2_with (first | ((with_reducible refine sqd 1 rfl ?_); refine sqx0 w (sqB HB) #[.int .i64 a0_0, .int .i64 a0_1] 116 fun g0 w5 B0 E0 HB => ?_) | ((with_reducible refine sqd 2 rfl ?_); refine sqx1 w (sqB1 HB E0) #[.int .i64 0, .int .i64 0] 116 B0 fun g1 w6 B2 E1 HB N0 N1 B0 => ?_; have := sqn2 N0 N1; have := sqY2 B0) | ((with_reducible refine sqc 132 rfl ?_); refine sqv (some 5) func132 (F68.c k a0_0 a0_1 true _ A2.1) fun w9 hb => ?_; obtain ⟨B0, B2⟩ := sqT2 hb B0 B2; replace HB := sqS (sqB2 HB E0 E1) hb; have := sqY2 B0; have := sqY2 B2))
   refine sqE g1 116 #[.int .i64 a0_0, .int .i64 a0_1] (Z4 B2) underlying116 ?_
   exact ⟨Z5, sqB2 HB E0 E1⟩
  obtain ⟨t1, A0, H⟩ := sqD H
  obtain ⟨ji0, hji0⟩ : ∃ j_ : Int, (mn a0_1 t1) = j_ := ⟨_, rfl⟩
  replace H : (some (a0_0, ji0, true)) = some (r1, r2, r3) := by first | (rw [hji0] at H; exact H) | (simp only [hji0] at H ⊢; exact H)
  (try rw [hji0] at A2)
  (try rw [hji0] at A0)
  have hji1 : (if t1 < a0_1 then t1 else a0_1) = ji0 := hji0
  obtain ⟨rfl, rfl, rfl⟩ := sqO3 H
  go_enter func98, ntmps98
  try go_wp2_with (first | ((with_reducible refine sqd 1 rfl ?_); refine sqx0 w (sqB HB) #[.int .i64 a0_0, .int .i64 a0_1] 116 fun g0 w0 B0 E0 HB => ?_) | ((with_reducible refine sqd 2 rfl ?_); refine sqx1 w (sqB1 HB E0) #[.int .i64 0, .int .i64 0] 116 B0 fun g1 w2 B2 E1 HB N0 N1 B0 => ?_; have := sqn2 N0 N1; have := sqY2 B0) | ((with_reducible refine sqc 132 rfl ?_); refine sqv (some 5) func132 (F68.c k a0_0 a0_1 true _ A2.1) fun w3 hb => ?_; obtain ⟨B0, B2⟩ := sqT2 hb B0 B2; replace HB := sqS (sqB2 HB E0 E1) hb; have := sqY2 B0))
  replace B0 := sqa (blk_drew B0.1)
  replace B2 := sqa (blk_drew B2.1)
  replace HB := sqa (below_drew1 HB.1)
  refine start_ (n := 13) (S := fun w' => w'.cell? ⟨g0, 0, none⟩ = some (.int .i64 a0_0) ∧ w'.cell? ⟨g0, 1, none⟩ = some (.int .i64 a0_1)) (ds := []) #[false, false, false, false, false, false, false, false, false, false, false, false, false] (by kernel_rfl) rfl rfl (sqk1 B0) (fun hHeld => ?_); refine with_tabW F50.tab5 F50.bits5 (fun HT_ HW_ => ?_)
  generalize w3.drew = w4 at B0 B2 HB hHeld ⊢
  refine sqP 0 (some 12) (h := ?_)
  refine sqP 2 (some 14) (h := ?_)
  refine sqP 4 (some 16) (h := ?_)
  refine sqP 6 (some 18) (h := ?_)
  refine sqQ 1 (some 13) hHeld (h := ?_)
  refine sqQ 3 (some 15) hHeld (h := ?_)
  refine sqQ 5 (some 17) hHeld (h := ?_)
  refine sqQ 7 (some 19) hHeld (h := ?_)
  refine sq1 8 (some 20) (h := fun K hK => ?_)
  refine sqg func133 #[.int .i64 a0_1, .int .i64 a0_0] ?_
  with_reducible refine (F53.c k a0_1 a0_0 t1 _ A0.1).mono ?_
  rintro e w' ⟨rfl, ⟨nd, rfl⟩⟩
  refine ⟨_, rfl, ?_⟩
  refine hK.out _ _ (sqk1 B0) (fun hHeld => ?_)
  clear hK K
  refine sqN (some 20) ?_
  refine sqP 9 (some 21) (h := ?_)
  refine sqP 10 (some 22) (h := ?_)
  refine sq1 11 none (h := fun K hK => ?_)
  have := sqY2 B2
  have := sqn2 N0 N1
  refine skip_ (w1 := ?_) (by rfl) rfl ?_ ?_
  rotate_left
  ·go_simp
   rfl
  refine hK.out _ _ (sql1 N0 hHeld) (fun hHeld => ?_)
  clear hK K
  refine sqP 12 (some 3) (h := ?_)
  refine done_ (done_of HT_.out (by kernel_rfl)) ?_
  try go_wp2
  refine sqE g1 116 #[.int .i64 a0_0, .int .i64 ji0] (Z4 B2) underlying116 ?_
  exact ⟨by first | rfl | (simp [errP_none, errP_some] <;> rfl) | (simp only [← hji0]; first | rfl | (simp [errP_none, errP_some] <;> rfl)) | (simp [*, errP_none, errP_some] <;> rfl), sqB2 HB E0 E1⟩
 rw [if_neg sqF] at H
 obtain ⟨rfl, rfl, rfl⟩ := sqO3 H
 go_enter func98, ntmps98
 go_wp2_with (first | ((with_reducible refine sqd 1 rfl ?_); refine sqx0 w (sqB HB) #[.int .i64 a0_0, .int .i64 a0_1] 116 fun g0 w7 B0 E0 HB => ?_) | ((with_reducible refine sqd 2 rfl ?_); refine sqx1 w (sqB1 HB E0) #[.int .i64 0, .int .i64 0] 116 B0 fun g1 w8 B2 E1 HB N0 N1 B0 => ?_; have := sqn2 N0 N1; have := sqY2 B0) | ((with_reducible refine sqc 132 rfl ?_); refine sqv (some 5) func132 (F68.c k a0_0 a0_1 false _ A2.1) fun w27 hb => ?_; obtain ⟨B0, B2⟩ := sqT2 hb B0 B2; replace HB := sqS (sqB2 HB E0 E1) hb; have := sqY2 B2))
 refine sqE g1 116 #[.int .i64 0, .int .i64 0] (Z12 B2) underlying116 ?_
 exact ⟨Z5, sqB2 HB E0 E1⟩

def F81.f (k : Nat) (a0_0 : Int) (a0_1 : Int) (a1 : Int) : Option (Int) := (F0.f k a0_0 a0_1).bind fun t0 => (if t0 = true then ((F2.f a1 1 12).bind fun t1 => (if t1 = true then ((F14.f k a0_0 a1).bind fun t2 => (some (wrap64 (a1 * t2)))) else (some (-1)))) else (some (-1)))
theorem F81.c (k : Nat) (a0_0 : Int) (a0_1 : Int) (a1 : Int) (r : Int) (w : World) (H : F81.f k a0_0 a0_1 a1 = some r) :
  Calls prog 102 #[.agg #[.int .i64 a0_0, .int .i64 a0_1], .int .i64 a1] w fun e w' => e = .returned (.int .i64 r) ∧ Below w.heap.size w w' := by
 have hu31 := underlying31
 have HB := sqh w
 unfold F81.f at H
 obtain ⟨t0, A3, H⟩ := sqD H
 obtain rfl | rfl := sqt t0
 ·rw [if_pos rfl] at H
  obtain ⟨t1, A5, H⟩ := sqD H
  obtain rfl | rfl := sqt t1
  ·rw [if_pos rfl] at H
   obtain ⟨t2, A7, H⟩ := sqD H
   obtain rfl := sqo H
   go_enter func102, ntmps102
   go_wp2_with (first | ((with_reducible refine sqd 2 rfl ?_); refine sqx0 w (sqB HB) #[.int .i64 a0_0, .int .i64 a0_1] 31 fun g0 w8 B0 E0 HB => ?_; have := sqY2 B0) | ((with_reducible refine sqc 77 rfl ?_); refine sqv (some 6) func77 (F0.c k a0_0 a0_1 true _ A3.1) fun w0 hb => ?_; replace B0 := sqT B0 hb; replace HB := sqS (sqB1 HB E0) hb) | (go_at_call 101; (with_reducible refine (F2.c a1 1 12 true _ A5.1).mono ?_); rintro e w' ⟨rfl, ⟨nd, rfl⟩⟩; have := sqY2 B0) | ((with_reducible refine sqc 121 rfl ?_); refine sqv (some 17) func121 (F14.c k a0_0 a1 t2 _ A7.1) fun w1 hb => ?_; replace B0 := sqT B0 hb; replace HB := sqS (sqB1 HB E0) hb))
   go_ret
   exact ⟨Z5, sqB1 HB E0⟩
  rw [if_neg sqF] at H
  obtain rfl := sqo H
  go_enter func102, ntmps102
  go_wp2_with (first | ((with_reducible refine sqd 2 rfl ?_); refine sqx0 w (sqB HB) #[.int .i64 a0_0, .int .i64 a0_1] 31 fun g0 w2 B0 E0 HB => ?_; have := sqY2 B0) | ((with_reducible refine sqc 77 rfl ?_); refine sqv (some 6) func77 (F0.c k a0_0 a0_1 true _ A3.1) fun w3 hb => ?_; replace B0 := sqT B0 hb; replace HB := sqS (sqB1 HB E0) hb) | (go_at_call 101; (with_reducible refine (F2.c a1 1 12 false _ A5.1).mono ?_); rintro e w' ⟨rfl, ⟨nd, rfl⟩⟩))
  go_ret
  exact ⟨Z5, sqB1 HB E0⟩
 rw [if_neg sqF] at H
 obtain rfl := sqo H
 go_enter func102, ntmps102
 go_wp2_with (first | ((with_reducible refine sqd 2 rfl ?_); refine sqx0 w (sqB HB) #[.int .i64 a0_0, .int .i64 a0_1] 31 fun g0 w4 B0 E0 HB => ?_; have := sqY2 B0) | ((with_reducible refine sqc 77 rfl ?_); refine sqv (some 6) func77 (F0.c k a0_0 a0_1 false _ A3.1) fun w5 hb => ?_; replace B0 := sqT B0 hb; replace HB := sqS (sqB1 HB E0) hb))
 go_ret
 exact ⟨Z5, sqB1 HB E0⟩

end Go.Proofs.YtofmlbgfcohhoaaGreatDoor.PFnDeskSay
