import Derived.Test.YtofmlbgfcohhoaaGreatDoorPFnDeskLinex4
set_option maxHeartbeats 8000000
set_option maxRecDepth 100000
namespace Go.Proofs.YtofmlbgfcohhoaaGreatDoor.PFnDeskLine
open Go.RowKit Go.Proofs.YtofmlbgfcohhoaaGreatDoorW.PrintWords Go.Proofs.YtofmlbgfcohhoaaGreatDoorW.PrintLast Go.Proofs.YtofmlbgfcohhoaaGreatDoorW.PrintMore Go.Proofs.YtofmlbgfcohhoaaGreatDoor.Lib Go.Proofs.Tryz
attribute [local go_sem] max2_int min2_int max_two min_two max_three min_three max_four min_four
set_option linter.unusedVariables false
set_option linter.unusedSimpArgs false

/-! ### spec_RingsOf: function 96 -/
def spec_RingsOf.f (k : Nat) (a0_0 : Int) (a0_1 : Int) : Option (Int) := (spec_FractionOk.f k a0_0 a0_1).bind fun t0 => (if t0 = true then (if (Int.tmod a0_0 2) = 0 then (some 2) else (some 1)) else (some (-1)))
theorem spec_RingsOf.mono : ∀ a0 a1 k, LeO (spec_RingsOf.f k a0 a1) (spec_RingsOf.f (k + 1) a0 a1) := by
 intro a0 a1 k
 unfold spec_RingsOf.f
 repeat' (with_reducible first | exact spec_FractionOk.mono _ _ _ | exact LeO.refl _ | exact LeO.none _ | refine LeO.ite ?_ ?_ | refine LeO.bind ?_ fun _ => ?_)
theorem spec_RingsOf.calls (k : Nat) (a0_0 : Int) (a0_1 : Int) (r : Int) (w : World) (H : spec_RingsOf.f k a0_0 a0_1 = some r) :
  Calls prog 96 #[.agg #[.int .i64 a0_0, .int .i64 a0_1]] w fun e w' => e = .returned (.int .i64 r) ∧ Below w.heap.size w w' := by
 have hu31 := underlying31
 have HB := sqh w
 unfold spec_RingsOf.f at H
 obtain ⟨t0, A2, H⟩ := sqD H
 by_cases c3 : t0 = true
 ·subst c3
  rw [if_pos rfl] at H
  by_cases c4 : (Int.tmod a0_0 2) = 0
  ·rw [if_pos c4] at H
   have c4b0 : ((Int.tmod a0_0 2) == 0) = true := sqe1 c4
   have c4b1 : ((Int.tmod a0_0 2) != 0) = false := sqn0 c4
   clear c4
   obtain rfl := sqo H
   go_enter func96, ntmps96
   go_wp2_with (first | ((with_reducible refine sqd 1 rfl ?_); refine sqBx w (sqB HB) (cs := #[.int .i64 a0_0, .int .i64 a0_1]) (t := 31) ?_; intro g0 hg w5 B0 E0 HB hb; clear hb hg; obtain ⟨_, _, _, _⟩ := sqY2 B0) | ((with_reducible refine sqc 77 rfl ?_); refine sqC (some 4) func77 #[.agg #[.int .i64 a0_0, .int .i64 a0_1]] ?_; (with_reducible refine (spec_FractionOk.calls k a0_0 a0_1 true _ A2.1).mono ?_); refine sqV fun w7 hb => ?_; replace B0 := sqT B0 hb; replace HB := sqS (sqB1 HB E0) hb; obtain ⟨_, _, _, _⟩ := sqY2 B0))
   go_ret
   exact ⟨Z5, sqB1 HB E0⟩
  rw [if_neg c4] at H
  have c4b0 : ((Int.tmod a0_0 2) == 0) = false := sqe0 c4
  have c4b1 : ((Int.tmod a0_0 2) != 0) = true := sqn1 c4
  obtain rfl := sqo H
  go_enter func96, ntmps96
  go_wp2_with (first | ((with_reducible refine sqd 1 rfl ?_); refine sqBx w (sqB HB) (cs := #[.int .i64 a0_0, .int .i64 a0_1]) (t := 31) ?_; intro g0 hg w9 B0 E0 HB hb; clear hb hg; obtain ⟨_, _, _, _⟩ := sqY2 B0) | ((with_reducible refine sqc 77 rfl ?_); refine sqC (some 4) func77 #[.agg #[.int .i64 a0_0, .int .i64 a0_1]] ?_; (with_reducible refine (spec_FractionOk.calls k a0_0 a0_1 true _ A2.1).mono ?_); refine sqV fun w0 hb => ?_; replace B0 := sqT B0 hb; replace HB := sqS (sqB1 HB E0) hb; obtain ⟨_, _, _, _⟩ := sqY2 B0))
  go_ret
  exact ⟨Z5, sqB1 HB E0⟩
 obtain rfl := sqb c3
 rw [if_neg sqF] at H
 obtain rfl := sqo H
 go_enter func96, ntmps96
 go_wp2_with (first | ((with_reducible refine sqd 1 rfl ?_); refine sqBx w (sqB HB) (cs := #[.int .i64 a0_0, .int .i64 a0_1]) (t := 31) ?_; intro g0 hg w1 B0 E0 HB hb; clear hb hg; obtain ⟨_, _, _, _⟩ := sqY2 B0) | ((with_reducible refine sqc 77 rfl ?_); refine sqC (some 4) func77 #[.agg #[.int .i64 a0_0, .int .i64 a0_1]] ?_; (with_reducible refine (spec_FractionOk.calls k a0_0 a0_1 false _ A2.1).mono ?_); refine sqV fun w2 hb => ?_; replace B0 := sqT B0 hb; replace HB := sqS (sqB1 HB E0) hb))
 go_ret
 exact ⟨Z5, sqB1 HB E0⟩

/-! ### spec_LinkOf: function 97 -/
def spec_LinkOf.j0 : Nat → Bool → Int → Int → Option (Int × Int × Bool)
 | 0, _, _, _ => none
 | k + 1, x0, x1, x2 => if x0 = true then (some (0, 0, false)) else (if x1 = 0 then (some (0, 1, true)) else (if (mx x1 (wrap64 (-x1))) = 0 then (none) else (if x1 < 0 then (some (mx x1 (wrap64 (-x1)), Int.tmod (wrap64 ((mx x1 (wrap64 (-x1))) - (Int.tmod x2 (mx x1 (wrap64 (-x1)))))) (mx x1 (wrap64 (-x1))), true)) else (some (mx x1 (wrap64 (-x1)), Int.tmod x2 (mx x1 (wrap64 (-x1))), true)))))
def spec_LinkOf.f (k : Nat) (a0_0 : Int) (a0_1 : Int) : Option (Int × Int × Bool) := (spec_FractionOk.f k a0_0 a0_1).bind fun t0 => (if t0 = true then ((spec_l1In.f a0_0 (-60) 60).bind fun t1 => (spec_LinkOf.j0 k (!t1) a0_0 a0_1)) else (spec_LinkOf.j0 k true a0_0 a0_1))
abbrev spec_LinkOf.M (k : Nat) : Prop := (∀ y0 y1 y2, LeO (spec_LinkOf.j0 k y0 y1 y2) (spec_LinkOf.j0 (k + 1) y0 y1 y2))
theorem spec_LinkOf.mono_t : ∀ k, spec_LinkOf.M k → spec_LinkOf.M (k + 1) ∧ ∀ a0 a1, LeO (spec_LinkOf.f k a0 a1) (spec_LinkOf.f (k + 1) a0 a1) := by
  rintro k ih0
  refine ⟨?_, ?_⟩ <;> (try unfold spec_LinkOf.M) <;> intros <;> (first | unfold spec_LinkOf.j0 | unfold spec_LinkOf.f) <;> repeat' (with_reducible first | exact ih0 _ _ _ | exact spec_FractionOk.mono _ _ _ | exact LeO.refl _ | exact LeO.none _ | refine LeO.ite ?_ ?_ | refine LeO.bind ?_ fun _ => ?_)
theorem spec_LinkOf.mono_l : ∀ k, spec_LinkOf.M k
 | 0 => fun _ _ _ r h => by simp [spec_LinkOf.j0] at h
 | k + 1 => (spec_LinkOf.mono_t k (spec_LinkOf.mono_l k)).1
theorem spec_LinkOf.mono a0 a1 k : LeO (spec_LinkOf.f k a0 a1) (spec_LinkOf.f (k + 1) a0 a1) := (spec_LinkOf.mono_t k (spec_LinkOf.mono_l k)).2 a0 a1
theorem spec_LinkOf.calls (k : Nat) (a0_0 : Int) (a0_1 : Int) (r1 : Int) (r2 : Int) (r3 : Bool) (w : World) (H : spec_LinkOf.f k a0_0 a0_1 = some (r1, r2, r3)) :
  Calls prog 97 #[.agg #[.int .i64 a0_0, .int .i64 a0_1]] w fun e w' => e = .returned (.tuple #[.agg #[.int .i64 r1, .int .i64 r2], .bool r3]) ∧ Below w.heap.size w w' := by
 have hu31 := underlying31
 have hu116 := underlying116
 have HB := sqh w
 unfold spec_LinkOf.f at H
 have HC2 := sqa H
 clear H
 go_enter func97, ntmps97
 go_upto_region 1 with (first | ((with_reducible refine sqd 1 rfl ?_); refine sqBx w (sqB HB) (cs := #[.int .i64 a0_0, .int .i64 a0_1]) (t := 31) ?_; intro g0 hg w3 B0 E0 HB hb; clear hb hg) | ((with_reducible refine sqd 2 rfl ?_); refine sqBx w (sqB1 HB E0) (cs := #[.int .i64 0, .int .i64 0]) (t := 116) ?_; intro g1 hg w4 B2 E1 HB hb; obtain ⟨N0, N1⟩ := sqM hg B0; replace B0 := sqT B0 hb; clear hb hg))
 (try simp only [Act.put, List.setIfInBounds_toArray, List.set_cons_zero, List.set_cons_succ])
 go_cut [14] (fun v0 wc => ∃ (kq : Nat) (x0 : Bool), v0 = .bool x0 ∧ Aside0 (spec_LinkOf.j0 kq x0 a0_0 a0_1 = some (r1, r2, r3)) ∧ Aside0 (kq ≤ k) ∧ Aside0 (wc.heap[g0]? = some (.cells #[.int .i64 a0_0, .int .i64 a0_1] 31 (0, 0))) ∧ Aside0 (wc.heap[g1]? = some (.cells #[.int .i64 0, .int .i64 0] 116 (0, 0))) ∧ Aside0 (Below w.heap.size w wc))
 case first =>
  have H := HC2.1
  clear HC2
  obtain ⟨t0, A5, H⟩ := sqD H
  by_cases c6 : t0 = true
  ·subst c6
   rw [if_pos rfl] at H
   obtain ⟨t1, A7, H⟩ := sqD H
   have H' := sqa H
   clear H
   have := N0.1
   have := N1.1
   obtain ⟨_, _, _, _⟩ := sqY2 B0
   go_wp2_with (first | ((with_reducible refine sqc 77 rfl ?_); refine sqC (some 7) func77 #[.agg #[.int .i64 a0_0, .int .i64 a0_1]] ?_; (with_reducible refine (spec_FractionOk.calls k a0_0 a0_1 true _ A5.1).mono ?_); refine sqV fun w0 hb => ?_; replace B0 := sqT B0 hb; replace B2 := sqT B2 hb; replace HB := sqS (sqB2 HB E0 E1) hb; obtain ⟨_, _, _, _⟩ := sqY2 B0) | (go_at_call 101; (with_reducible refine (spec_l1In.calls a0_0 (-60) 60 t1 _ A7.1).mono ?_); rintro e w' ⟨rfl, ⟨nd, rfl⟩⟩))
   go_meet
   case rel => exact ⟨_, (!t1), Z1, H', ⟨Z11⟩, ⟨sqK B0⟩, ⟨sqK B2⟩, ⟨sqB2 HB E0 E1⟩⟩
  obtain rfl := sqb c6
  rw [if_neg sqF] at H
  have H' := sqa H
  clear H
  have := N0.1
  have := N1.1
  obtain ⟨_, _, _, _⟩ := sqY2 B0
  go_wp2_with (first | ((with_reducible refine sqc 77 rfl ?_); refine sqC (some 7) func77 #[.agg #[.int .i64 a0_0, .int .i64 a0_1]] ?_; (with_reducible refine (spec_FractionOk.calls k a0_0 a0_1 false _ A5.1).mono ?_); refine sqV fun w1 hb => ?_; replace B0 := sqT B0 hb; replace B2 := sqT B2 hb; replace HB := sqS (sqB2 HB E0 E1) hb))
  go_meet
  case rel => exact ⟨_, (true), Z1, H', ⟨Z11⟩, ⟨sqK B0⟩, ⟨sqK B2⟩, ⟨sqB2 HB E0 E1⟩⟩
 case rest =>
  clear HC2
  obtain ⟨kq, x0, rfl, HA, HJ1, B0, B2, HB⟩ := hcut
  cases kq with
  | zero => exact absurd HA.out (by simp [spec_LinkOf.j0])
  | succ kj1 =>
   have H := HA.out
   clear HA
   simp only [spec_LinkOf.j0] at H
   by_cases c0 : x0 = true
   ·subst c0
    rw [if_pos rfl] at H
    obtain ⟨rfl, rfl, rfl⟩ := sqO3 H
    have := N1.1
    have := N0.1
    obtain ⟨_, _, _, _⟩ := sqY2 B2
    go_wp2
    refine sqE g1 116 #[.int .i64 0, .int .i64 0] (Z12 B2) underlying116 ?_
    exact ⟨Z5, sqB2 HB E0 E1⟩
   obtain rfl := sqb c0
   rw [if_neg sqF] at H
   by_cases c1 : a0_0 = 0
   ·rw [if_pos c1] at H
    have c2 := sqe1 c1
    have c3 := sqn0 c1
    clear c1
    obtain ⟨rfl, rfl, rfl⟩ := sqO3 H
    have := N0.1
    have := N1.1
    obtain ⟨_, _, _, _⟩ := sqY2 B0
    obtain ⟨_, _, _, _⟩ := sqY2 B2
    go_wp2
    refine sqE g1 116 #[.int .i64 0, .int .i64 1] (Z12 B2) underlying116 ?_
    exact ⟨Z5, sqB2 HB E0 E1⟩
   rw [if_neg c1] at H
   have c2 := sqe0 c1
   have c3 := sqn1 c1
   obtain ⟨ji22, hji22⟩ : ∃ j_ : Int, (mx a0_0 (wrap64 (-a0_0))) = j_ := ⟨_, rfl⟩
   replace H : (if (ji22) = 0 then (none) else (if a0_0 < 0 then (some (ji22, Int.tmod (wrap64 ((ji22) - (Int.tmod a0_1 (ji22)))) (ji22), true)) else (some (ji22, Int.tmod a0_1 (ji22), true)))) = some (r1, r2, r3) := by first | (rw [hji22] at H; exact H) | (simp only [hji22] at H ⊢; exact H)
   have hji0 : (if a0_0 < (wrap64 (-a0_0)) then (wrap64 (-a0_0)) else a0_0) = ji22 := hji22
   by_cases c4 : (ji22) = 0
   ·rw [if_pos c4] at H
    exact absurd H (by simp)
   rw [if_neg c4] at H
   have c5 := sqe0 c4
   have c7 := sqn1 c4
   by_cases c8 : a0_0 < 0
   ·rw [if_pos c8] at H
    have c9 : decide (a0_0 < 0) = true := decide_eq_true c8
    clear c8
    obtain ⟨rfl, rfl, rfl⟩ := sqO3 H
    have := N0.1
    have := N1.1
    obtain ⟨_, _, _, _⟩ := sqY2 B0
    obtain ⟨_, _, _, _⟩ := sqY2 B2
    go_wp2
    refine sqE g1 116 #[.int .i64 ji22, .int .i64 (Int.tmod (wrap64 ((ji22) - (Int.tmod a0_1 (ji22)))) (ji22))] (Z55 B2) underlying116 ?_
    exact ⟨Z56, sqB2 HB E0 E1⟩
   rw [if_neg c8] at H
   have c9 : decide (a0_0 < 0) = false := decide_eq_false c8
   clear c8
   obtain ⟨rfl, rfl, rfl⟩ := sqO3 H
   have := N0.1
   have := N1.1
   obtain ⟨_, _, _, _⟩ := sqY2 B0
   obtain ⟨_, _, _, _⟩ := sqY2 B2
   go_wp2
   refine sqE g1 116 #[.int .i64 ji22, .int .i64 (Int.tmod a0_1 (ji22))] (Z55 B2) underlying116 ?_
   exact ⟨Z56, sqB2 HB E0 E1⟩

/-! ### spec_LinkOk: function 132 -/
def spec_LinkOk.f (k : Nat) (a0_0 : Int) (a0_1 : Int) : Option (Bool) := if a0_0 = 0 then (some (a0_1 == 1)) else (if a0_0 = 1 then (some (a0_1 == 0)) else ((spec_l1In.f a0_0 2 60).bind fun t0 => (if t0 = true then ((spec_l1In.f a0_1 1 (wrap64 (a0_0 - 1))).bind fun t1 => (if t1 = true then ((spec_l1Common.f k a0_0 a0_1).bind fun t2 => (some (t2 == 1))) else (some false))) else (some false))))
theorem spec_LinkOk.mono : ∀ a0 a1 k, LeO (spec_LinkOk.f k a0 a1) (spec_LinkOk.f (k + 1) a0 a1) := by
 intro a0 a1 k
 unfold spec_LinkOk.f
 repeat' (with_reducible first | exact spec_l1Common.mono _ _ _ | exact LeO.refl _ | exact LeO.none _ | refine LeO.ite ?_ ?_ | refine LeO.bind ?_ fun _ => ?_)
theorem spec_LinkOk.calls (k : Nat) (a0_0 : Int) (a0_1 : Int) (r : Bool) (w : World) (H : spec_LinkOk.f k a0_0 a0_1 = some r) :
  Calls prog 132 #[.agg #[.int .i64 a0_0, .int .i64 a0_1]] w fun e w' => e = .returned (.bool r) ∧ Below w.heap.size w w' := by
 have hu116 := underlying116
 have HB := sqh w
 unfold spec_LinkOk.f at H
 by_cases c2 : a0_0 = 0
 ·rw [if_pos c2] at H
  have c2b0 : (a0_0 == 0) = true := sqe1 c2
  have c2b1 : (a0_0 != 0) = false := sqn0 c2
  clear c2
  obtain rfl := sqo H
  go_enter func132, ntmps132
  go_wp2_with (first | ((with_reducible refine sqd 1 rfl ?_); refine sqBx w (sqB HB) (cs := #[.int .i64 a0_0, .int .i64 a0_1]) (t := 116) ?_; intro g0 hg w3 B0 E0 HB hb; clear hb hg; obtain ⟨_, _, _, _⟩ := sqY2 B0))
  go_ret
  exact ⟨Z5, sqB1 HB E0⟩
 rw [if_neg c2] at H
 have c2b0 : (a0_0 == 0) = false := sqe0 c2
 have c2b1 : (a0_0 != 0) = true := sqn1 c2
 by_cases c5 : a0_0 = 1
 ·rw [if_pos c5] at H
  have c5b0 : (a0_0 == 1) = true := sqe1 c5
  have c5b1 : (a0_0 != 1) = false := sqn0 c5
  clear c5
  obtain rfl := sqo H
  go_enter func132, ntmps132
  go_wp2_with (first | ((with_reducible refine sqd 1 rfl ?_); refine sqBx w (sqB HB) (cs := #[.int .i64 a0_0, .int .i64 a0_1]) (t := 116) ?_; intro g0 hg w6 B0 E0 HB hb; clear hb hg; obtain ⟨_, _, _, _⟩ := sqY2 B0))
  go_ret
  exact ⟨Z5, sqB1 HB E0⟩
 rw [if_neg c5] at H
 have c5b0 : (a0_0 == 1) = false := sqe0 c5
 have c5b1 : (a0_0 != 1) = true := sqn1 c5
 obtain ⟨t0, A8, H⟩ := sqD H
 by_cases c9 : t0 = true
 ·subst c9
  rw [if_pos rfl] at H
  obtain ⟨t1, A0, H⟩ := sqD H
  by_cases c0 : t1 = true
  ·subst c0
   rw [if_pos rfl] at H
   obtain ⟨t2, A1, H⟩ := sqD H
   obtain rfl := sqo H
   go_enter func132, ntmps132
   go_wp2_with (first | ((with_reducible refine sqd 1 rfl ?_); refine sqBx w (sqB HB) (cs := #[.int .i64 a0_0, .int .i64 a0_1]) (t := 116) ?_; intro g0 hg w0 B0 E0 HB hb; clear hb hg; obtain ⟨_, _, _, _⟩ := sqY2 B0) | ((with_reducible refine sqc 101 rfl ?_); refine sqC (some 19) func101 #[.int .i64 a0_0, .int .i64 2, .int .i64 60] ?_; (with_reducible refine (spec_l1In.calls a0_0 2 60 true _ A8.1).mono ?_); rintro e w' ⟨rfl, ⟨nd, rfl⟩⟩; refine ⟨_, rfl, ?_⟩) | (go_at_call 101; (with_reducible refine (spec_l1In.calls a0_1 1 (wrap64 (a0_0 - 1)) true _ A0.1).mono ?_); rintro e w' ⟨rfl, ⟨nd, rfl⟩⟩) | (go_at_call 121; (with_reducible refine (spec_l1Common.calls k a0_0 a0_1 t2 _ A1.1).mono ?_); rintro e w1 ⟨rfl, hb⟩; replace B0 := sqT B0 hb; replace HB := sqS (sqB1 HB E0) hb))
   go_ret
   exact ⟨Z5, sqB1 HB E0⟩
  obtain rfl := sqb c0
  rw [if_neg sqF] at H
  obtain rfl := sqo H
  go_enter func132, ntmps132
  go_wp2_with (first | ((with_reducible refine sqd 1 rfl ?_); refine sqBx w (sqB HB) (cs := #[.int .i64 a0_0, .int .i64 a0_1]) (t := 116) ?_; intro g0 hg w2 B0 E0 HB hb; clear hb hg; obtain ⟨_, _, _, _⟩ := sqY2 B0) | ((with_reducible refine sqc 101 rfl ?_); refine sqC (some 19) func101 #[.int .i64 a0_0, .int .i64 2, .int .i64 60] ?_; (with_reducible refine (spec_l1In.calls a0_0 2 60 true _ A8.1).mono ?_); rintro e w' ⟨rfl, ⟨nd, rfl⟩⟩; refine ⟨_, rfl, ?_⟩) | (go_at_call 101; (with_reducible refine (spec_l1In.calls a0_1 1 (wrap64 (a0_0 - 1)) false _ A0.1).mono ?_); rintro e w' ⟨rfl, ⟨nd, rfl⟩⟩))
  go_ret
  exact ⟨Z5, sqB1 HB E0⟩
 obtain rfl := sqb c9
 rw [if_neg sqF] at H
 obtain rfl := sqo H
 go_enter func132, ntmps132
 go_wp2_with (first | ((with_reducible refine sqd 1 rfl ?_); refine sqBx w (sqB HB) (cs := #[.int .i64 a0_0, .int .i64 a0_1]) (t := 116) ?_; intro g0 hg w4 B0 E0 HB hb; clear hb hg; obtain ⟨_, _, _, _⟩ := sqY2 B0) | ((with_reducible refine sqc 101 rfl ?_); refine sqC (some 19) func101 #[.int .i64 a0_0, .int .i64 2, .int .i64 60] ?_; (with_reducible refine (spec_l1In.calls a0_0 2 60 false _ A8.1).mono ?_); rintro e w' ⟨rfl, ⟨nd, rfl⟩⟩; refine ⟨_, rfl, ?_⟩))
 go_ret
 exact ⟨Z5, sqB1 HB E0⟩

/-! ### spec_l10Back: function 133 -/
def spec_l10Back.l0 : Nat → Int → Int → Int → Option (Int)
 | 0, _, _, _ => none
 | k + 1, x0, x1, x5 => if x5 < x1 then (if x1 = 0 then (none) else (if (Int.tmod (wrap64 (x5 * x0)) x1) = 1 then (some x5) else (spec_l10Back.l0 k x0 x1 (wrap64 (x5 + 1))))) else (some 0)
def spec_l10Back.f (k : Nat) (a0 : Int) (a1 : Int) : Option (Int) := spec_l10Back.l0 k a0 a1 1
abbrev spec_l10Back.M (k : Nat) : Prop := (∀ y0 y1 y2, LeO (spec_l10Back.l0 k y0 y1 y2) (spec_l10Back.l0 (k + 1) y0 y1 y2))
theorem spec_l10Back.mono_t : ∀ k, spec_l10Back.M k → spec_l10Back.M (k + 1) ∧ ∀ a0 a1, LeO (spec_l10Back.f k a0 a1) (spec_l10Back.f (k + 1) a0 a1) := by
  rintro k ih0
  refine ⟨?_, ?_⟩ <;> (try unfold spec_l10Back.M) <;> intros <;> (first | unfold spec_l10Back.l0 | unfold spec_l10Back.f) <;> repeat' (with_reducible first | exact ih0 _ _ _ | exact LeO.refl _ | exact LeO.none _ | refine LeO.ite ?_ ?_ | refine LeO.bind ?_ fun _ => ?_)
theorem spec_l10Back.mono_l : ∀ k, spec_l10Back.M k
 | 0 => fun _ _ _ r h => by simp [spec_l10Back.l0] at h
 | k + 1 => (spec_l10Back.mono_t k (spec_l10Back.mono_l k)).1
theorem spec_l10Back.mono a0 a1 k : LeO (spec_l10Back.f k a0 a1) (spec_l10Back.f (k + 1) a0 a1) := (spec_l10Back.mono_t k (spec_l10Back.mono_l k)).2 a0 a1
theorem spec_l10Back.calls (k : Nat) (a0 : Int) (a1 : Int) (r : Int) (w : World) (H : spec_l10Back.f k a0 a1 = some r) :
  Calls prog 133 #[.int .i64 a0, .int .i64 a1] w fun e w' => e = .returned (.int .i64 r) ∧ Drawn0 w w' := by
 unfold spec_l10Back.f at H
 have H' := sqa H
 clear H
 go_enter func133, ntmps133
 go_wp2
 go_loopg [5] k (fun kq v5 w' => ∃ (x5_1 : Int), v5 = .int .i64 x5_1 ∧ Aside0 (spec_l10Back.l0 kq a0 a1 x5_1 = some r) ∧ Aside0 (kq ≤ k) ∧ Drawn0 w w')
 case atStart => exact ⟨(1), Z1, H', ⟨Nat.le_refl _⟩, Z15⟩
 case round =>
  clear H'
  obtain ⟨x5_1, rfl, HA, HK1, ⟨m1, rfl⟩⟩ := hrel
  cases gk with
  | zero => exact absurd HA.out (by simp [spec_l10Back.l0])
  | succ k1 =>
   have H := HA.out
   clear HA
   simp only [spec_l10Back.l0] at H
   by_cases c3 : x5_1 < a1
   ·rw [if_pos c3] at H
    have c3b0 : decide (x5_1 < a1) = true := decide_eq_true c3
    clear c3
    by_cases c4 : a1 = 0
    ·rw [if_pos c4] at H
     exact absurd H (by simp)
    rw [if_neg c4] at H
    have c4b0 : (a1 == 0) = false := sqe0 c4
    have c4b1 : (a1 != 0) = true := sqn1 c4
    by_cases c5 : (Int.tmod (wrap64 (x5_1 * a0)) a1) = 1
    ·rw [if_pos c5] at H
     have c5b0 : ((Int.tmod (wrap64 (x5_1 * a0)) a1) == 1) = true := sqe1 c5
     have c5b1 : ((Int.tmod (wrap64 (x5_1 * a0)) a1) != 1) = false := sqn0 c5
     clear c5
     obtain rfl := sqo H
     go_wp2
     go_ret
     exact ⟨Z1, Z15⟩
    rw [if_neg c5] at H
    have c5b0 : ((Int.tmod (wrap64 (x5_1 * a0)) a1) == 1) = false := sqe0 c5
    have c5b1 : ((Int.tmod (wrap64 (x5_1 * a0)) a1) != 1) = true := sqn1 c5
    have H' := sqa H
    clear H
    go_wp2
    go_roundg k1
    case measure => have := HK1.out; omega
    case rel => exact ⟨(wrap64 (x5_1 + 1)), Z1, H', ⟨Z2 HK1⟩, Z15⟩
   rw [if_neg c3] at H
   have c3b0 : decide (x5_1 < a1) = false := decide_eq_false c3
   clear c3
   obtain rfl := sqo H
   go_wp2
   go_ret
   exact ⟨Z1, Z15⟩

/-! ### spec_LeastOf: function 98 -/
def spec_LeastOf.f (k : Nat) (a0_0 : Int) (a0_1 : Int) : Option (Int × Int × Bool) := (spec_LinkOk.f k a0_0 a0_1).bind fun t0 => (if t0 = true then (if a0_0 < 2 then (some (a0_0, a0_1, true)) else ((spec_l10Back.f k a0_1 a0_0).bind fun t1 => (some (a0_0, mn a0_1 t1, true)))) else (some (0, 0, false)))
theorem spec_LeastOf.mono : ∀ a0 a1 k, LeO (spec_LeastOf.f k a0 a1) (spec_LeastOf.f (k + 1) a0 a1) := by
 intro a0 a1 k
 unfold spec_LeastOf.f
 repeat' (with_reducible first | exact spec_LinkOk.mono _ _ _ | exact spec_l10Back.mono _ _ _ | exact LeO.refl _ | exact LeO.none _ | refine LeO.ite ?_ ?_ | refine LeO.bind ?_ fun _ => ?_)
def spec_LeastOf.T5 : Bool × List (List Nat × List Nat) := (true, [([], []), ([0], [0]), ([], []), ([2], [2]), ([], []), ([4], [4]), ([], []), ([6], [6]), ([5, 7], [5, 7]), ([3, 8], [3, 8]), ([1, 9], [1, 9]), ([10, 8, 0, 1, 2, 3, 4, 5, 6, 7, 8, 9, 10], [10]), ([11, 0, 1, 2, 3, 4, 5, 6, 7, 8, 9, 10, 11], [])])
def spec_LeastOf.B5 : List Nat := [0, 1, 0, 4, 0, 16, 0, 64, 240, 508, 1023, 2047, 4095]
theorem spec_LeastOf.tab5 : rtab .any (opsOf f98 5) = spec_LeastOf.T5 := by kernel_rfl
theorem spec_LeastOf.bits5 : waitsOk spec_LeastOf.T5.2 spec_LeastOf.B5 = true := by kernel_rfl
theorem spec_LeastOf.calls (k : Nat) (a0_0 : Int) (a0_1 : Int) (r1 : Int) (r2 : Int) (r3 : Bool) (w : World) (H : spec_LeastOf.f k a0_0 a0_1 = some (r1, r2, r3)) :
  Calls prog 98 #[.agg #[.int .i64 a0_0, .int .i64 a0_1]] w fun e w' => e = .returned (.tuple #[.agg #[.int .i64 r1, .int .i64 r2], .bool r3]) ∧ Below w.heap.size w w' := by
 have hu116 := underlying116
 have HB := sqh w
 unfold spec_LeastOf.f at H
 obtain ⟨t0, A2, H⟩ := sqD H
 by_cases c3 : t0 = true
 ·subst c3
  rw [if_pos rfl] at H
  by_cases c4 : a0_0 < 2
  ·rw [if_pos c4] at H
   have c4b0 : decide (a0_0 < 2) = true := decide_eq_true c4
   clear c4
   obtain ⟨rfl, rfl, rfl⟩ := sqO3 H
   go_enter func98, ntmps98
   go_wp2_with (first | ((with_reducible refine sqd 1 rfl ?_); refine sqBx w (sqB HB) (cs := #[.int .i64 a0_0, .int .i64 a0_1]) (t := 116) ?_; intro g0 hg w5 B0 E0 HB hb; clear hb hg) | ((with_reducible refine sqd 2 rfl ?_); refine sqBx w (sqB1 HB E0) (cs := #[.int .i64 0, .int .i64 0]) (t := 116) ?_; intro g1 hg w6 B2 E1 HB hb; obtain ⟨N0, N1⟩ := sqM hg B0; replace B0 := sqT B0 hb; clear hb hg; have := N0.1; have := N1.1; obtain ⟨_, _, _, _⟩ := sqY2 B0) | ((with_reducible refine sqc 132 rfl ?_); refine sqC (some 5) func132 #[.agg #[.int .i64 a0_0, .int .i64 a0_1]] ?_; (with_reducible refine (spec_LinkOk.calls k a0_0 a0_1 true _ A2.1).mono ?_); refine sqV fun w9 hb => ?_; replace B0 := sqT B0 hb; replace B2 := sqT B2 hb; replace HB := sqS (sqB2 HB E0 E1) hb; obtain ⟨_, _, _, _⟩ := sqY2 B0; obtain ⟨_, _, _, _⟩ := sqY2 B2))
   refine sqE g1 116 #[.int .i64 a0_0, .int .i64 a0_1] (Z4 B2) underlying116 ?_
   exact ⟨Z5, sqB2 HB E0 E1⟩
  rw [if_neg c4] at H
  have c4b0 : decide (a0_0 < 2) = false := decide_eq_false c4
  clear c4
  obtain ⟨t1, A0, H⟩ := sqD H
  obtain ⟨ji0, hji0⟩ : ∃ j_ : Int, (mn a0_1 t1) = j_ := ⟨_, rfl⟩
  replace H : (some (a0_0, ji0, true)) = some (r1, r2, r3) := by first | (rw [hji0] at H; exact H) | (simp only [hji0] at H ⊢; exact H)
  (try rw [hji0] at A2)
  (try rw [hji0] at A0)
  have hji1 : (if t1 < a0_1 then t1 else a0_1) = ji0 := hji0
  obtain ⟨rfl, rfl, rfl⟩ := sqO3 H
  go_enter func98, ntmps98
  try go_wp2_with (first | ((with_reducible refine sqd 1 rfl ?_); refine sqBx w (sqB HB) (cs := #[.int .i64 a0_0, .int .i64 a0_1]) (t := 116) ?_; intro g0 hg w0 B0 E0 HB hb; clear hb hg) | ((with_reducible refine sqd 2 rfl ?_); refine sqBx w (sqB1 HB E0) (cs := #[.int .i64 0, .int .i64 0]) (t := 116) ?_; intro g1 hg w2 B2 E1 HB hb; obtain ⟨N0, N1⟩ := sqM hg B0; replace B0 := sqT B0 hb; clear hb hg; have := N0.1; have := N1.1; obtain ⟨_, _, _, _⟩ := sqY2 B0) | ((with_reducible refine sqc 132 rfl ?_); refine sqC (some 5) func132 #[.agg #[.int .i64 a0_0, .int .i64 a0_1]] ?_; (with_reducible refine (spec_LinkOk.calls k a0_0 a0_1 true _ A2.1).mono ?_); refine sqV fun w3 hb => ?_; replace B0 := sqT B0 hb; replace B2 := sqT B2 hb; replace HB := sqS (sqB2 HB E0 E1) hb; obtain ⟨_, _, _, _⟩ := sqY2 B0))
  replace B0 := sqa (blk_drew B0.1)
  replace B2 := sqa (blk_drew B2.1)
  replace HB := sqa (below_drew1 HB.1)
  refine start_ (n := 13) (S := fun w' => w'.cell? ⟨g0, 0, none⟩ = some (.int .i64 a0_0) ∧ w'.cell? ⟨g0, 1, none⟩ = some (.int .i64 a0_1)) (ds := []) #[false, false, false, false, false, false, false, false, false, false, false, false, false] (by kernel_rfl) rfl rfl (sqk1 B0) (fun hHeld => ?_); refine with_tabW spec_LeastOf.tab5 spec_LeastOf.bits5 (fun HT_ HW_ => ?_)
  generalize w3.drew = w4 at B0 B2 HB hHeld ⊢
  refine sqP 0 (some 12) (h := ?_)
  refine sqP 2 (some 14) (h := ?_)
  refine sqP 4 (some 16) (h := ?_)
  refine sqP 6 (some 18) (h := ?_)
  refine sqQ 1 (some 13) hHeld (h := ?_)
  refine sqQ 3 (some 15) hHeld (h := ?_)
  refine sqQ 5 (some 17) hHeld (h := ?_)
  refine sqQ 7 (some 19) hHeld (h := ?_)
  refine sq1 8 (some 20) (h := fun K hK => ?_)
  refine sqg func133 #[.int .i64 a0_1, .int .i64 a0_0] ?_
  with_reducible refine (spec_l10Back.calls k a0_1 a0_0 t1 _ A0.1).mono ?_
  rintro e w' ⟨rfl, ⟨nd, rfl⟩⟩
  refine ⟨_, rfl, ?_⟩
  refine hK.out _ _ (sqk1 B0) (fun hHeld => ?_)
  clear hK K
  refine sqN (some 20) ?_
  refine sqP 9 (some 21) (h := ?_)
  refine sqP 10 (some 22) (h := ?_)
  refine sq1 11 none (h := fun K hK => ?_)
  obtain ⟨_, _, _, _⟩ := sqY2 B2
  have := N0.1
  have := N1.1
  refine skip_ (w1 := ?_) (by rfl) rfl ?_ ?_
  rotate_left
  ·go_simp
   rfl
  refine hK.out _ _ (sql1 N0 hHeld) (fun hHeld => ?_)
  clear hK K
  refine sqP 12 (some 3) (h := ?_)
  refine done_ (done_of HT_.out (by kernel_rfl)) ?_
  try go_wp2
  refine sqE g1 116 #[.int .i64 a0_0, .int .i64 ji0] (Z4 B2) underlying116 ?_
  exact ⟨by first | rfl | (simp [errP_none, errP_some] <;> rfl) | (simp only [← hji0]; first | rfl | (simp [errP_none, errP_some] <;> rfl)) | (simp [*, errP_none, errP_some] <;> rfl), sqB2 HB E0 E1⟩
 obtain rfl := sqb c3
 rw [if_neg sqF] at H
 obtain ⟨rfl, rfl, rfl⟩ := sqO3 H
 go_enter func98, ntmps98
 go_wp2_with (first | ((with_reducible refine sqd 1 rfl ?_); refine sqBx w (sqB HB) (cs := #[.int .i64 a0_0, .int .i64 a0_1]) (t := 116) ?_; intro g0 hg w7 B0 E0 HB hb; clear hb hg) | ((with_reducible refine sqd 2 rfl ?_); refine sqBx w (sqB1 HB E0) (cs := #[.int .i64 0, .int .i64 0]) (t := 116) ?_; intro g1 hg w8 B2 E1 HB hb; obtain ⟨N0, N1⟩ := sqM hg B0; replace B0 := sqT B0 hb; clear hb hg; have := N0.1; have := N1.1; obtain ⟨_, _, _, _⟩ := sqY2 B0) | ((with_reducible refine sqc 132 rfl ?_); refine sqC (some 5) func132 #[.agg #[.int .i64 a0_0, .int .i64 a0_1]] ?_; (with_reducible refine (spec_LinkOk.calls k a0_0 a0_1 false _ A2.1).mono ?_); refine sqV fun w27 hb => ?_; replace B0 := sqT B0 hb; replace B2 := sqT B2 hb; replace HB := sqS (sqB2 HB E0 E1) hb; obtain ⟨_, _, _, _⟩ := sqY2 B2))
 refine sqE g1 116 #[.int .i64 0, .int .i64 0] (Z12 B2) underlying116 ?_
 exact ⟨Z5, sqB2 HB E0 E1⟩

/-! ### spec_TiedFor: function 102 -/
def spec_TiedFor.f (k : Nat) (a0_0 : Int) (a0_1 : Int) (a1 : Int) : Option (Int) := (spec_FractionOk.f k a0_0 a0_1).bind fun t0 => (if t0 = true then ((spec_l1In.f a1 1 12).bind fun t1 => (if t1 = true then ((spec_l1Common.f k a0_0 a1).bind fun t2 => (some (wrap64 (a1 * t2)))) else (some (-1)))) else (some (-1)))
theorem spec_TiedFor.mono : ∀ a0 a1 a2 k, LeO (spec_TiedFor.f k a0 a1 a2) (spec_TiedFor.f (k + 1) a0 a1 a2) := by
 intro a0 a1 a2 k
 unfold spec_TiedFor.f
 repeat' (with_reducible first | exact spec_FractionOk.mono _ _ _ | exact spec_l1Common.mono _ _ _ | exact LeO.refl _ | exact LeO.none _ | refine LeO.ite ?_ ?_ | refine LeO.bind ?_ fun _ => ?_)
theorem spec_TiedFor.calls (k : Nat) (a0_0 : Int) (a0_1 : Int) (a1 : Int) (r : Int) (w : World) (H : spec_TiedFor.f k a0_0 a0_1 a1 = some r) :
  Calls prog 102 #[.agg #[.int .i64 a0_0, .int .i64 a0_1], .int .i64 a1] w fun e w' => e = .returned (.int .i64 r) ∧ Below w.heap.size w w' := by
 have hu31 := underlying31
 have HB := sqh w
 unfold spec_TiedFor.f at H
 obtain ⟨t0, A3, H⟩ := sqD H
 by_cases c4 : t0 = true
 ·subst c4
  rw [if_pos rfl] at H
  obtain ⟨t1, A5, H⟩ := sqD H
  by_cases c6 : t1 = true
  ·subst c6
   rw [if_pos rfl] at H
   obtain ⟨t2, A7, H⟩ := sqD H
   obtain rfl := sqo H
   go_enter func102, ntmps102
   go_wp2_with (first | ((with_reducible refine sqd 2 rfl ?_); refine sqBx w (sqB HB) (cs := #[.int .i64 a0_0, .int .i64 a0_1]) (t := 31) ?_; intro g0 hg w8 B0 E0 HB hb; clear hb hg; obtain ⟨_, _, _, _⟩ := sqY2 B0) | ((with_reducible refine sqc 77 rfl ?_); refine sqC (some 6) func77 #[.agg #[.int .i64 a0_0, .int .i64 a0_1]] ?_; (with_reducible refine (spec_FractionOk.calls k a0_0 a0_1 true _ A3.1).mono ?_); refine sqV fun w0 hb => ?_; replace B0 := sqT B0 hb; replace HB := sqS (sqB1 HB E0) hb) | (go_at_call 101; (with_reducible refine (spec_l1In.calls a1 1 12 true _ A5.1).mono ?_); rintro e w' ⟨rfl, ⟨nd, rfl⟩⟩; obtain ⟨_, _, _, _⟩ := sqY2 B0) | ((with_reducible refine sqc 121 rfl ?_); refine sqC (some 17) func121 #[.int .i64 a0_0, .int .i64 a1] ?_; (with_reducible refine (spec_l1Common.calls k a0_0 a1 t2 _ A7.1).mono ?_); refine sqV fun w1 hb => ?_; replace B0 := sqT B0 hb; replace HB := sqS (sqB1 HB E0) hb))
   go_ret
   exact ⟨Z5, sqB1 HB E0⟩
  obtain rfl := sqb c6
  rw [if_neg sqF] at H
  obtain rfl := sqo H
  go_enter func102, ntmps102
  go_wp2_with (first | ((with_reducible refine sqd 2 rfl ?_); refine sqBx w (sqB HB) (cs := #[.int .i64 a0_0, .int .i64 a0_1]) (t := 31) ?_; intro g0 hg w2 B0 E0 HB hb; clear hb hg; obtain ⟨_, _, _, _⟩ := sqY2 B0) | ((with_reducible refine sqc 77 rfl ?_); refine sqC (some 6) func77 #[.agg #[.int .i64 a0_0, .int .i64 a0_1]] ?_; (with_reducible refine (spec_FractionOk.calls k a0_0 a0_1 true _ A3.1).mono ?_); refine sqV fun w3 hb => ?_; replace B0 := sqT B0 hb; replace HB := sqS (sqB1 HB E0) hb) | (go_at_call 101; (with_reducible refine (spec_l1In.calls a1 1 12 false _ A5.1).mono ?_); rintro e w' ⟨rfl, ⟨nd, rfl⟩⟩))
  go_ret
  exact ⟨Z5, sqB1 HB E0⟩
 obtain rfl := sqb c4
 rw [if_neg sqF] at H
 obtain rfl := sqo H
 go_enter func102, ntmps102
 go_wp2_with (first | ((with_reducible refine sqd 2 rfl ?_); refine sqBx w (sqB HB) (cs := #[.int .i64 a0_0, .int .i64 a0_1]) (t := 31) ?_; intro g0 hg w4 B0 E0 HB hb; clear hb hg; obtain ⟨_, _, _, _⟩ := sqY2 B0) | ((with_reducible refine sqc 77 rfl ?_); refine sqC (some 6) func77 #[.agg #[.int .i64 a0_0, .int .i64 a0_1]] ?_; (with_reducible refine (spec_FractionOk.calls k a0_0 a0_1 false _ A3.1).mono ?_); refine sqV fun w5 hb => ?_; replace B0 := sqT B0 hb; replace HB := sqS (sqB1 HB E0) hb))
 go_ret
 exact ⟨Z5, sqB1 HB E0⟩
end Go.Proofs.YtofmlbgfcohhoaaGreatDoor.PFnDeskLine
