import Derived.Test.YtofmlbgfcohhoaaGreatDoorPFnReadJournalx24
set_option maxHeartbeats 8000000
set_option maxRecDepth 100000
namespace Go.Proofs.YtofmlbgfcohhoaaGreatDoor.PFnReadJournal
open Go.RowKit Go.Proofs.YtofmlbgfcohhoaaGreatDoorW.PrintWords Go.Proofs.YtofmlbgfcohhoaaGreatDoorW.PrintLast Go.Proofs.YtofmlbgfcohhoaaGreatDoorW.PrintMore Go.Proofs.YtofmlbgfcohhoaaGreatDoor.Lib Go.Proofs.Tryz
attribute [local go_sem] max2_int min2_int max_two min_two max_three min_three max_four min_four
set_option linter.unusedVariables false
set_option linter.unusedSimpArgs false

def F70.f (k : Nat) (a0_0 : Int) (a0_1 : Int) : Option (Int) := (F2.f k a0_0 a0_1).bind fun t0 => (if t0 = true then ((F79.f a0_0 a0_1).bind fun t1 => (if t1 = 0 then (some 2) else (some 1))) else (some (-1)))
theorem F70.m : ∀ a0 a1 k, LeO (F70.f k a0 a1) (F70.f (k + 1) a0 a1) := by
 intro a0 a1 k
 unfold F70.f
 repeat' (with_reducible first | exact F2.m _ _ _ | exact LeO.refl _ | exact LeO.none _ | refine LeO.ite ?_ ?_ | refine LeO.bind ?_ fun _ => ?_)
theorem F70.c (k : Nat) (a0_0 : Int) (a0_1 : Int) (r : Int) (w : World) (H : F70.f k a0_0 a0_1 = some r) :
  Calls prog 147 #[.agg #[.int .i64 a0_0, .int .i64 a0_1]] w fun e w' => e = .returned (.int .i64 r) ∧ Below w.heap.size w w' := by
 have hu31 := underlying31
 have HB := sqh w
 unfold F70.f at H
 obtain ⟨t0, A2, H⟩ := sqD H
 by_cases c3 : t0 = true
 ·subst c3
  rw [if_pos rfl] at H
  obtain ⟨t1, A4, H⟩ := sqD H
  by_cases c5 : t1 = 0
  ·rw [if_pos c5] at H
   have c5b0 : (t1 == 0) = true := sqe1 c5
   have c5b1 : (t1 != 0) = false := sqn0 c5
   clear c5
   obtain rfl := sqo H
   go_enter func147, ntmps147
   go_wp2_with (first | ((with_reducible refine sqd 1 rfl ?_); refine sqBx w (sqB HB) (cs := #[.int .i64 a0_0, .int .i64 a0_1]) (t := 31) ?_; intro g0 hg w6 B0 E0 HB hb; clear hb hg; have := sqY2 B0) | ((with_reducible refine sqc 70 rfl ?_); refine sqC (some 4) func70 #[.agg #[.int .i64 a0_0, .int .i64 a0_1]] ?_; (with_reducible refine (F2.c k a0_0 a0_1 true _ A2.1).mono ?_); refine sqV fun w8 hb => ?_; replace B0 := sqT B0 hb; replace HB := sqS (sqB1 HB E0) hb; have := sqY2 B0) | ((with_reducible refine sqc 169 rfl ?_); refine sqC (some 7) func169 #[.agg #[.int .i64 a0_0, .int .i64 a0_1]] ?_; (with_reducible refine (F79.c a0_0 a0_1 t1 _ A4.1).mono ?_); refine sqV fun w0 hb => ?_; replace B0 := sqT B0 hb; replace HB := sqS (sqB1 HB E0) hb))
   go_ret
   exact ⟨Z14, sqB1 HB E0⟩
  rw [if_neg c5] at H
  have c5b0 : (t1 == 0) = false := sqe0 c5
  have c5b1 : (t1 != 0) = true := sqn1 c5
  obtain rfl := sqo H
  go_enter func147, ntmps147
  go_wp2_with (first | ((with_reducible refine sqd 1 rfl ?_); refine sqBx w (sqB HB) (cs := #[.int .i64 a0_0, .int .i64 a0_1]) (t := 31) ?_; intro g0 hg w1 B0 E0 HB hb; clear hb hg; have := sqY2 B0) | ((with_reducible refine sqc 70 rfl ?_); refine sqC (some 4) func70 #[.agg #[.int .i64 a0_0, .int .i64 a0_1]] ?_; (with_reducible refine (F2.c k a0_0 a0_1 true _ A2.1).mono ?_); refine sqV fun w2 hb => ?_; replace B0 := sqT B0 hb; replace HB := sqS (sqB1 HB E0) hb; have := sqY2 B0) | ((with_reducible refine sqc 169 rfl ?_); refine sqC (some 7) func169 #[.agg #[.int .i64 a0_0, .int .i64 a0_1]] ?_; (with_reducible refine (F79.c a0_0 a0_1 t1 _ A4.1).mono ?_); refine sqV fun w3 hb => ?_; replace B0 := sqT B0 hb; replace HB := sqS (sqB1 HB E0) hb))
  go_ret
  exact ⟨Z14, sqB1 HB E0⟩
 obtain rfl := sqb c3
 rw [if_neg sqF] at H
 obtain rfl := sqo H
 go_enter func147, ntmps147
 go_wp2_with (first | ((with_reducible refine sqd 1 rfl ?_); refine sqBx w (sqB HB) (cs := #[.int .i64 a0_0, .int .i64 a0_1]) (t := 31) ?_; intro g0 hg w4 B0 E0 HB hb; clear hb hg; have := sqY2 B0) | ((with_reducible refine sqc 70 rfl ?_); refine sqC (some 4) func70 #[.agg #[.int .i64 a0_0, .int .i64 a0_1]] ?_; (with_reducible refine (F2.c k a0_0 a0_1 false _ A2.1).mono ?_); refine sqV fun w5 hb => ?_; replace B0 := sqT B0 hb; replace HB := sqS (sqB1 HB E0) hb))
 go_ret
 exact ⟨Z14, sqB1 HB E0⟩

def F36.j0 : Nat → Bool → Int → Int → Option (Int × Int × Bool)
 | 0, _, _, _ => none
 | k + 1, x0, x1, x2 => if x0 = true then (some (0, 0, false)) else (if x1 = 0 then (some (0, 1, true)) else (if (mx x1 (wrap64 (-x1))) = 0 then (none) else (if x1 < 0 then (some (mx x1 (wrap64 (-x1)), Int.tmod (wrap64 ((mx x1 (wrap64 (-x1))) - (Int.tmod x2 (mx x1 (wrap64 (-x1)))))) (mx x1 (wrap64 (-x1))), true)) else (some (mx x1 (wrap64 (-x1)), Int.tmod x2 (mx x1 (wrap64 (-x1))), true)))))
def F36.f (k : Nat) (a0_0 : Int) (a0_1 : Int) : Option (Int × Int × Bool) := (F2.f k a0_0 a0_1).bind fun t0 => (if t0 = true then (if a0_0 < (-60) then (F36.j0 k true a0_0 a0_1) else (F36.j0 k (decide (a0_0 > 60)) a0_0 a0_1)) else (F36.j0 k true a0_0 a0_1))
abbrev F36.M (k : Nat) : Prop := (∀ y0 y1 y2, LeO (F36.j0 k y0 y1 y2) (F36.j0 (k + 1) y0 y1 y2))
theorem F36.mt : ∀ k, F36.M k → F36.M (k + 1) ∧ ∀ a0 a1, LeO (F36.f k a0 a1) (F36.f (k + 1) a0 a1) := by
  rintro k ih0
  refine ⟨?_, ?_⟩ <;> (try unfold F36.M) <;> intros <;> (first | unfold F36.j0 | unfold F36.f) <;> repeat' (with_reducible first | exact ih0 _ _ _ | exact F2.m _ _ _ | exact LeO.refl _ | exact LeO.none _ | refine LeO.ite ?_ ?_ | refine LeO.bind ?_ fun _ => ?_)
theorem F36.ml : ∀ k, F36.M k
 | 0 => fun _ _ _ r h => by simp [F36.j0] at h
 | k + 1 => (F36.mt k (F36.ml k)).1
theorem F36.m a0 a1 k : LeO (F36.f k a0 a1) (F36.f (k + 1) a0 a1) := (F36.mt k (F36.ml k)).2 a0 a1
theorem F36.c (k : Nat) (a0_0 : Int) (a0_1 : Int) (r1 : Int) (r2 : Int) (r3 : Bool) (w : World) (H : F36.f k a0_0 a0_1 = some (r1, r2, r3)) :
  Calls prog 148 #[.agg #[.int .i64 a0_0, .int .i64 a0_1]] w fun e w' => e = .returned (.tuple #[.agg #[.int .i64 r1, .int .i64 r2], .bool r3]) ∧ Below w.heap.size w w' := by
 have hu31 := underlying31
 have hu116 := underlying116
 have HB := sqh w
 unfold F36.f at H
 have HC2 := sqa H
 clear H
 go_enter func148, ntmps148
 go_upto_region 1 with (first | ((with_reducible refine sqd 1 rfl ?_); refine sqBx w (sqB HB) (cs := #[.int .i64 a0_0, .int .i64 a0_1]) (t := 31) ?_; intro g0 hg w3 B0 E0 HB hb; clear hb hg) | ((with_reducible refine sqd 2 rfl ?_); refine sqBx w (sqB1 HB E0) (cs := #[.int .i64 0, .int .i64 0]) (t := 116) ?_; intro g1 hg w4 B2 E1 HB hb; obtain ⟨N0, N1⟩ := sqM hg B0; replace B0 := sqT B0 hb; clear hb hg))
 (try simp only [Act.put, List.setIfInBounds_toArray, List.set_cons_zero, List.set_cons_succ])
 go_cut [18] (fun v0 wc => ∃ (kq : Nat) (x0 : Bool), v0 = .bool x0 ∧ Aside0 (F36.j0 kq x0 a0_0 a0_1 = some (r1, r2, r3)) ∧ Aside0 (kq ≤ k) ∧ Aside0 (wc.heap[g0]? = some (.cells #[.int .i64 a0_0, .int .i64 a0_1] 31 (0, 0))) ∧ Aside0 (wc.heap[g1]? = some (.cells #[.int .i64 0, .int .i64 0] 116 (0, 0))) ∧ Aside0 (Below w.heap.size w wc))
 case first =>
  have H := HC2.1
  clear HC2
  obtain ⟨t0, A5, H⟩ := sqD H
  by_cases c6 : t0 = true
  ·subst c6
   rw [if_pos rfl] at H
   by_cases c7 : a0_0 < (-60)
   ·rw [if_pos c7] at H
    have c7b0 : decide (a0_0 < (-60)) = true := decide_eq_true c7
    clear c7
    (first | rw [c7b0] | (simp only [i64_w, i32_w]; rw [c7b0]) | skip)
    have H' := sqa H
    clear H
    have := sqn2 N0 N1
    have := sqY2 B0
    go_wp2_with (first | ((with_reducible refine sqc 70 rfl ?_); refine sqC (some 7) func70 #[.agg #[.int .i64 a0_0, .int .i64 a0_1]] ?_; (with_reducible refine (F2.c k a0_0 a0_1 true _ A5.1).mono ?_); refine sqV fun w0 hb => ?_; obtain ⟨B0, B2⟩ := sqT2 hb B0 B2; replace HB := sqS (sqB2 HB E0 E1) hb; have := sqY2 B0))
    go_meet
    case rel => exact ⟨_, (true), Z2, H', ⟨Z3⟩, ⟨sqK B0⟩, ⟨sqK B2⟩, ⟨sqB2 HB E0 E1⟩⟩
   rw [if_neg c7] at H
   have c7b0 : decide (a0_0 < (-60)) = false := decide_eq_false c7
   clear c7
   (first | rw [c7b0] | (simp only [i64_w, i32_w]; rw [c7b0]) | skip)
   have H' := sqa H
   clear H
   have := sqn2 N0 N1
   have := sqY2 B0
   go_wp2_with (first | ((with_reducible refine sqc 70 rfl ?_); refine sqC (some 7) func70 #[.agg #[.int .i64 a0_0, .int .i64 a0_1]] ?_; (with_reducible refine (F2.c k a0_0 a0_1 true _ A5.1).mono ?_); refine sqV fun w1 hb => ?_; obtain ⟨B0, B2⟩ := sqT2 hb B0 B2; replace HB := sqS (sqB2 HB E0 E1) hb; have := sqY2 B0))
   go_meet
   case rel => exact ⟨_, (decide (a0_0 > 60)), Z2, H', ⟨Z3⟩, ⟨sqK B0⟩, ⟨sqK B2⟩, ⟨sqB2 HB E0 E1⟩⟩
  obtain rfl := sqb c6
  rw [if_neg sqF] at H
  have H' := sqa H
  clear H
  have := sqn2 N0 N1
  have := sqY2 B0
  go_wp2_with (first | ((with_reducible refine sqc 70 rfl ?_); refine sqC (some 7) func70 #[.agg #[.int .i64 a0_0, .int .i64 a0_1]] ?_; (with_reducible refine (F2.c k a0_0 a0_1 false _ A5.1).mono ?_); refine sqV fun w2 hb => ?_; obtain ⟨B0, B2⟩ := sqT2 hb B0 B2; replace HB := sqS (sqB2 HB E0 E1) hb))
  go_meet
  case rel => exact ⟨_, (true), Z2, H', ⟨Z3⟩, ⟨sqK B0⟩, ⟨sqK B2⟩, ⟨sqB2 HB E0 E1⟩⟩
 case rest =>
  clear HC2
  obtain ⟨kq, x0, rfl, HA, HJ1, B0, B2, HB⟩ := hcut
  cases kq with
  | zero => exact absurd HA.out (by simp [F36.j0])
  | succ kj1 =>
   have H := HA.out
   clear HA
   simp only [F36.j0] at H
   by_cases c0 : x0 = true
   ·subst c0
    rw [if_pos rfl] at H
    obtain ⟨rfl, rfl, rfl⟩ := sqO3 H
    have := sqn2 N1 N0
    have := sqY2 B2
    go_wp2
    refine sqE g1 116 #[.int .i64 0, .int .i64 0] (Z37 B2) underlying116 ?_
    exact ⟨Z14, sqB2 HB E0 E1⟩
   obtain rfl := sqb c0
   rw [if_neg sqF] at H
   by_cases c1 : a0_0 = 0
   ·rw [if_pos c1] at H
    have c2 := sqe1 c1
    have c3 := sqn0 c1
    clear c1
    obtain ⟨rfl, rfl, rfl⟩ := sqO3 H
    have := sqn2 N0 N1
    have := sqY2 B0
    have := sqY2 B2
    go_wp2
    refine sqE g1 116 #[.int .i64 0, .int .i64 1] (Z37 B2) underlying116 ?_
    exact ⟨Z14, sqB2 HB E0 E1⟩
   rw [if_neg c1] at H
   have c2 := sqe0 c1
   have c3 := sqn1 c1
   obtain ⟨ji26, hji26⟩ : ∃ j_ : Int, (mx a0_0 (wrap64 (-a0_0))) = j_ := ⟨_, rfl⟩
   replace H : (if (ji26) = 0 then (none) else (if a0_0 < 0 then (some (ji26, Int.tmod (wrap64 ((ji26) - (Int.tmod a0_1 (ji26)))) (ji26), true)) else (some (ji26, Int.tmod a0_1 (ji26), true)))) = some (r1, r2, r3) := by first | (rw [hji26] at H; exact H) | (simp only [hji26] at H ⊢; exact H)
   have hji0 : (if a0_0 < (wrap64 (-a0_0)) then (wrap64 (-a0_0)) else a0_0) = ji26 := hji26
   by_cases c4 : (ji26) = 0
   ·rw [if_pos c4] at H
    exact absurd H (by simp)
   rw [if_neg c4] at H
   have c5 := sqe0 c4
   have c8 := sqn1 c4
   by_cases c9 : a0_0 < 0
   ·rw [if_pos c9] at H
    have c10 : decide (a0_0 < 0) = true := decide_eq_true c9
    clear c9
    obtain ⟨rfl, rfl, rfl⟩ := sqO3 H
    have := sqn2 N0 N1
    have := sqY2 B0
    have := sqY2 B2
    go_wp2
    refine sqE g1 116 #[.int .i64 ji26, .int .i64 (Int.tmod (wrap64 ((ji26) - (Int.tmod a0_1 (ji26)))) (ji26))] (Z98 B2) underlying116 ?_
    exact ⟨Z99, sqB2 HB E0 E1⟩
   rw [if_neg c9] at H
   have c10 : decide (a0_0 < 0) = false := decide_eq_false c9
   clear c9
   obtain ⟨rfl, rfl, rfl⟩ := sqO3 H
   have := sqn2 N0 N1
   have := sqY2 B0
   have := sqY2 B2
   go_wp2
   refine sqE g1 116 #[.int .i64 ji26, .int .i64 (Int.tmod a0_1 (ji26))] (Z98 B2) underlying116 ?_
   exact ⟨Z99, sqB2 HB E0 E1⟩

def F28.l0 : Nat → Int → Int → Int → Option (Int × Int)
 | 0, _, _, _ => none
 | k + 1, x3, x0, x1 => if x3 < x1 then (if x0 = 0 then (none) else (if (Int.tmod (wrap64 (x3 * x1)) x0) = 1 then (F28.l0 k (wrap64 (x3 + 1)) x0 x3) else (F28.l0 k (wrap64 (x3 + 1)) x0 x1))) else (some (x0, x1))
def F28.f (k : Nat) (a0_0 : Int) (a0_1 : Int) : Option (Int × Int) := F28.l0 k 1 a0_0 a0_1
abbrev F28.M (k : Nat) : Prop := (∀ y0 y1 y2, LeO (F28.l0 k y0 y1 y2) (F28.l0 (k + 1) y0 y1 y2))
theorem F28.mt : ∀ k, F28.M k → F28.M (k + 1) ∧ ∀ a0 a1, LeO (F28.f k a0 a1) (F28.f (k + 1) a0 a1) := by
  rintro k ih0
  refine ⟨?_, ?_⟩ <;> (try unfold F28.M) <;> intros <;> (first | unfold F28.l0 | unfold F28.f) <;> repeat' (with_reducible first | exact ih0 _ _ _ | exact LeO.refl _ | exact LeO.none _ | refine LeO.ite ?_ ?_ | refine LeO.bind ?_ fun _ => ?_)
theorem F28.ml : ∀ k, F28.M k
 | 0 => fun _ _ _ r h => by simp [F28.l0] at h
 | k + 1 => (F28.mt k (F28.ml k)).1
theorem F28.m a0 a1 k : LeO (F28.f k a0 a1) (F28.f (k + 1) a0 a1) := (F28.mt k (F28.ml k)).2 a0 a1
theorem F28.c (k : Nat) (a0_0 : Int) (a0_1 : Int) (r1 : Int) (r2 : Int) (w : World) (H : F28.f k a0_0 a0_1 = some (r1, r2)) :
  Calls prog 149 #[.agg #[.int .i64 a0_0, .int .i64 a0_1]] w fun e w' => e = .returned (.agg #[.int .i64 r1, .int .i64 r2]) ∧ Below w.heap.size w w' := by
 have hu116 := underlying116
 have HB := sqh w
 unfold F28.f at H
 have H' := sqa H
 clear H
 go_enter func149, ntmps149
 go_wp2_with (first | ((with_reducible refine sqd 1 rfl ?_); refine sqBx w (sqB HB) (cs := #[.int .i64 a0_0, .int .i64 a0_1]) (t := 116) ?_; intro g0 hg w2 B0 E0 HB hb; clear hb hg) | ((with_reducible refine sqd 2 rfl ?_); refine sqBx w (sqB1 HB E0) (cs := #[.int .i64 0, .int .i64 0]) (t := 116) ?_; intro g1 hg w3 B2 E1 HB hb; obtain ⟨N0, N1⟩ := sqM hg B0; replace B0 := sqT B0 hb; clear hb hg))
 go_loopg [3] k (fun kq v3 w' => ∃ (x3_1 : Int) (x0 : Int), v3 = .int .i64 x3_1 ∧ Aside0 (F28.l0 kq x3_1 a0_0 x0 = some (r1, r2)) ∧ Aside0 (kq ≤ k) ∧ Aside0 (w'.heap[g0]? = some (.cells #[.int .i64 a0_0, .int .i64 x0] 116 (0, 0))) ∧ Aside0 (w'.heap[g1]? = some (.cells #[.int .i64 0, .int .i64 0] 116 (0, 0))) ∧ Aside0 (Below w.heap.size w w'))
 case atStart => exact ⟨(1), (a0_1), Z2, H', ⟨Nat.le_refl _⟩, ⟨sqK B0⟩, ⟨sqK B2⟩, ⟨sqB2 HB E0 E1⟩⟩
 case round =>
  clear H'
  obtain ⟨x3_1, x0, rfl, HA, HK1, B0, B2, HB⟩ := hrel
  cases gk with
  | zero => exact absurd HA.out (by simp [F28.l0])
  | succ k1 =>
   have H := HA.out
   clear HA
   simp only [F28.l0] at H
   by_cases c4 : x3_1 < x0
   ·rw [if_pos c4] at H
    have c4b0 : decide (x3_1 < x0) = true := decide_eq_true c4
    clear c4
    by_cases c5 : a0_0 = 0
    ·rw [if_pos c5] at H
     exact absurd H (by simp)
    rw [if_neg c5] at H
    have c5b0 : (a0_0 == 0) = false := sqe0 c5
    have c5b1 : (a0_0 != 0) = true := sqn1 c5
    by_cases c6 : (Int.tmod (wrap64 (x3_1 * x0)) a0_0) = 1
    ·rw [if_pos c6] at H
     have c6b0 : ((Int.tmod (wrap64 (x3_1 * x0)) a0_0) == 1) = true := sqe1 c6
     have c6b1 : ((Int.tmod (wrap64 (x3_1 * x0)) a0_0) != 1) = false := sqn0 c6
     clear c6
     have H' := sqa H
     clear H
     have := sqn2 N0 N1
     have := sqY2 B0
     go_wp2
     go_roundg k1
     case measure => have := HK1.out; omega
     case rel => exact ⟨(wrap64 (x3_1 + 1)), (x3_1), Z2, H', ⟨Z15 HK1⟩, ⟨by refine sqPut (cs := #[.int .i64 a0_0, .int .i64 x0]) ?_ 1; exact sqK B0⟩, ⟨Z16 N1 B2⟩, ⟨sqB2 HB E0 E1⟩⟩
    rw [if_neg c6] at H
    have c6b0 : ((Int.tmod (wrap64 (x3_1 * x0)) a0_0) == 1) = false := sqe0 c6
    have c6b1 : ((Int.tmod (wrap64 (x3_1 * x0)) a0_0) != 1) = true := sqn1 c6
    have H' := sqa H
    clear H
    have := sqn2 N0 N1
    have := sqY2 B0
    go_wp2
    go_roundg k1
    case measure => have := HK1.out; omega
    case rel => exact ⟨(wrap64 (x3_1 + 1)), (x0), Z2, H', ⟨Z15 HK1⟩, ⟨sqK B0⟩, ⟨sqK B2⟩, ⟨sqB2 HB E0 E1⟩⟩
   rw [if_neg c4] at H
   have c4b0 : decide (x3_1 < x0) = false := decide_eq_false c4
   clear c4
   obtain ⟨rfl, rfl⟩ := sqO2 H
   have := sqn2 N0 N1
   have := sqY2 B0
   have := sqY2 B2
   go_wp2
   refine sqEr g1 116 #[.int .i64 a0_0, .int .i64 x0] (Z81 B2) underlying116 ?_
   exact ⟨Z14, sqB2 HB E0 E1⟩

-- given: function 150 (strings_CutPrefix)

def F66.f (k : Nat) (a0_0 : Int) (a0_1 : Int) (a1 : Int) : Option (Int) := (F2.f k a0_0 a0_1).bind fun t0 => (if t0 = true then (if a1 < 1 then (some (-1)) else (if a1 > 12 then (some (-1)) else ((F14.f k a1 a0_0).bind fun t1 => (some (wrap64 (a1 * t1)))))) else (some (-1)))
theorem F66.m : ∀ a0 a1 a2 k, LeO (F66.f k a0 a1 a2) (F66.f (k + 1) a0 a1 a2) := by
 intro a0 a1 a2 k
 unfold F66.f
 repeat' (with_reducible first | exact F14.m _ _ _ | exact F2.m _ _ _ | exact LeO.refl _ | exact LeO.none _ | refine LeO.ite ?_ ?_ | refine LeO.bind ?_ fun _ => ?_)
theorem F66.c (k : Nat) (a0_0 : Int) (a0_1 : Int) (a1 : Int) (r : Int) (w : World) (H : F66.f k a0_0 a0_1 a1 = some r) :
  Calls prog 152 #[.agg #[.int .i64 a0_0, .int .i64 a0_1], .int .i64 a1] w fun e w' => e = .returned (.int .i64 r) ∧ Below w.heap.size w w' := by
 have hu31 := underlying31
 have HB := sqh w
 unfold F66.f at H
 obtain ⟨t0, A3, H⟩ := sqD H
 by_cases c4 : t0 = true
 ·subst c4
  rw [if_pos rfl] at H
  by_cases c5 : a1 < 1
  ·rw [if_pos c5] at H
   have c5b0 : decide (a1 < 1) = true := decide_eq_true c5
   clear c5
   obtain rfl := sqo H
   go_enter func152, ntmps152
   go_wp2_with (first | ((with_reducible refine sqd 2 rfl ?_); refine sqBx w (sqB HB) (cs := #[.int .i64 a0_0, .int .i64 a0_1]) (t := 31) ?_; intro g0 hg w6 B0 E0 HB hb; clear hb hg; have := sqY2 B0) | ((with_reducible refine sqc 70 rfl ?_); refine sqC (some 6) func70 #[.agg #[.int .i64 a0_0, .int .i64 a0_1]] ?_; (with_reducible refine (F2.c k a0_0 a0_1 true _ A3.1).mono ?_); refine sqV fun w8 hb => ?_; replace B0 := sqT B0 hb; replace HB := sqS (sqB1 HB E0) hb))
   go_ret
   exact ⟨Z14, sqB1 HB E0⟩
  rw [if_neg c5] at H
  have c5b0 : decide (a1 < 1) = false := decide_eq_false c5
  clear c5
  by_cases c9 : a1 > 12
  ·rw [if_pos c9] at H
   have c9b0 : decide (12 < a1) = true := decide_eq_true c9
   clear c9
   obtain rfl := sqo H
   go_enter func152, ntmps152
   go_wp2_with (first | ((with_reducible refine sqd 2 rfl ?_); refine sqBx w (sqB HB) (cs := #[.int .i64 a0_0, .int .i64 a0_1]) (t := 31) ?_; intro g0 hg w0 B0 E0 HB hb; clear hb hg; have := sqY2 B0) | ((with_reducible refine sqc 70 rfl ?_); refine sqC (some 6) func70 #[.agg #[.int .i64 a0_0, .int .i64 a0_1]] ?_; (with_reducible refine (F2.c k a0_0 a0_1 true _ A3.1).mono ?_); refine sqV fun w1 hb => ?_; replace B0 := sqT B0 hb; replace HB := sqS (sqB1 HB E0) hb))
   go_ret
   exact ⟨Z14, sqB1 HB E0⟩
  rw [if_neg c9] at H
  have c9b0 : decide (12 < a1) = false := decide_eq_false c9
  clear c9
  obtain ⟨t1, A0, H⟩ := sqD H
  obtain rfl := sqo H
  go_enter func152, ntmps152
  go_wp2_with (first | ((with_reducible refine sqd 2 rfl ?_); refine sqBx w (sqB HB) (cs := #[.int .i64 a0_0, .int .i64 a0_1]) (t := 31) ?_; intro g0 hg w2 B0 E0 HB hb; clear hb hg; have := sqY2 B0) | ((with_reducible refine sqc 70 rfl ?_); refine sqC (some 6) func70 #[.agg #[.int .i64 a0_0, .int .i64 a0_1]] ?_; (with_reducible refine (F2.c k a0_0 a0_1 true _ A3.1).mono ?_); refine sqV fun w3 hb => ?_; replace B0 := sqT B0 hb; replace HB := sqS (sqB1 HB E0) hb; have := sqY2 B0) | ((with_reducible refine sqc 117 rfl ?_); refine sqC (some 20) func117 #[.int .i64 a1, .int .i64 a0_0] ?_; (with_reducible refine (F14.c k a1 a0_0 t1 _ A0.1).mono ?_); refine sqV fun w4 hb => ?_; replace B0 := sqT B0 hb; replace HB := sqS (sqB1 HB E0) hb))
  go_ret
  exact ⟨Z14, sqB1 HB E0⟩
 obtain rfl := sqb c4
 rw [if_neg sqF] at H
 obtain rfl := sqo H
 go_enter func152, ntmps152
 go_wp2_with (first | ((with_reducible refine sqd 2 rfl ?_); refine sqBx w (sqB HB) (cs := #[.int .i64 a0_0, .int .i64 a0_1]) (t := 31) ?_; intro g0 hg w5 B0 E0 HB hb; clear hb hg; have := sqY2 B0) | ((with_reducible refine sqc 70 rfl ?_); refine sqC (some 6) func70 #[.agg #[.int .i64 a0_0, .int .i64 a0_1]] ?_; (with_reducible refine (F2.c k a0_0 a0_1 false _ A3.1).mono ?_); refine sqV fun w7 hb => ?_; replace B0 := sqT B0 hb; replace HB := sqS (sqB1 HB E0) hb))
 go_ret
 exact ⟨Z14, sqB1 HB E0⟩
mutual
def F6.j0 : Nat → Int → Bool → Int → Int → Option (ByteArray)
 | 0, _, _, _, _ => none
 | k + 1, x0, x1, x2, x3 => if x1 = true then (some (⟨#[119, 104, 97, 116]⟩ : ByteArray)) else (if x0 < 1 then (F6.j1 k x0 true x2 x3) else (F6.j1 k x0 (decide (x0 > 12)) x2 x3))
def F6.j1 : Nat → Int → Bool → Int → Int → Option (ByteArray)
 | 0, _, _, _, _ => none
 | k + 1, x0, x1, x2, x3 => if x1 = true then (some (⟨#[110, 111, 110, 101]⟩ : ByteArray)) else ((F66.f k x2 x3 x0).bind fun t0 => ((strconv_Itoa.f t0).bind fun t1 => (some t1)))
end
def F6.f (k : Nat) (a0_0 : Int) (a0_1 : Int) (a1 : ByteArray) : Option (ByteArray) := if a1.toList = ([116, 101, 120, 116] : List UInt8) then ((F51.f a0_0 a0_1).bind fun t0 => (some t0)) else (if a1.toList = ([109, 111, 118, 101, 115] : List UInt8) then ((F50.f k a0_0 a0_1 12).bind fun t1 => (if t1 = true then ((F37.f k a0_0 a0_1).bind fun t2 => (if 1 + t2.size ≤ 9223372036854775807 then (some ((⟨#[58]⟩ : ByteArray) ++ t2)) else (none))) else (some (⟨#[110, 111, 110, 101]⟩ : ByteArray)))) else (if a1.toList = ([116, 101, 114, 109, 115] : List UInt8) then ((F63.f k a0_0 a0_1).bind fun bt0 => (if bt0.2 = true then ((F24.f k bt0.1).bind fun t3 => (some t3)) else (some (⟨#[110, 111, 110, 101]⟩ : ByteArray)))) else (if a1.toList = ([99, 114, 111, 115, 115, 105, 110, 103, 115] : List UInt8) then ((F39.f k a0_0 a0_1).bind fun t4 => ((strconv_Itoa.f t4).bind fun t5 => (some t5))) else (if a1.toList = ([101, 110, 100, 115] : List UInt8) then ((F71.f k a0_0 a0_1).bind fun t6 => ((F24.f k t6).bind fun t7 => (some t7))) else (if a1.toList = ([114, 105, 110, 103, 115] : List UInt8) then ((F70.f k a0_0 a0_1).bind fun t8 => ((strconv_Itoa.f t8).bind fun t9 => (some t9))) else (if a1.toList = ([108, 105, 110, 107] : List UInt8) then ((F36.f k a0_0 a0_1).bind fun bt1 => (if bt1.2.2 = true then ((F28.f k bt1.1 bt1.2.1).bind fun bt2 => ((strconv_Itoa.f bt2.1).bind fun t10 => (if t10.size + 1 ≤ 9223372036854775807 then ((strconv_Itoa.f bt2.2).bind fun t11 => (if (t10 ++ (⟨#[58]⟩ : ByteArray)).size + t11.size ≤ 9223372036854775807 then (some ((t10 ++ (⟨#[58]⟩ : ByteArray)) ++ t11)) else (none))) else (none)))) else (some (⟨#[110, 111, 110, 101]⟩ : ByteArray)))) else ((strings_CutPrefix.f a1 (⟨#[99, 111, 108, 111, 117, 114, 115, 32]⟩ : ByteArray)).bind fun bt3 => ((strconv_Atoi.f bt3.1).bind fun bt4 => (if bt3.2 = true then (if bt4.2.isNone = true then (if bt4.1 < 0 then (F6.j0 k bt4.1 true a0_0 a0_1) else (if bt4.1 > 9999999 then (F6.j0 k bt4.1 true a0_0 a0_1) else ((strconv_Itoa.f bt4.1).bind fun t12 => (F6.j0 k bt4.1 (t12.toList != bt3.1.toList) a0_0 a0_1)))) else (F6.j0 k bt4.1 true a0_0 a0_1)) else (F6.j0 k bt4.1 true a0_0 a0_1))))))))))
abbrev F6.M (k : Nat) : Prop := (∀ y0 y1 y2 y3, LeO (F6.j0 k y0 y1 y2 y3) (F6.j0 (k + 1) y0 y1 y2 y3)) ∧ (∀ y0 y1 y2 y3, LeO (F6.j1 k y0 y1 y2 y3) (F6.j1 (k + 1) y0 y1 y2 y3))
theorem F6.mt : ∀ k, F6.M k → F6.M (k + 1) ∧ ∀ a0 a1 a2, LeO (F6.f k a0 a1 a2) (F6.f (k + 1) a0 a1 a2) := by
  rintro k ⟨ih0, ih1⟩
  refine ⟨⟨?_, ?_⟩, ?_⟩ <;> intros <;> (first | unfold F6.j0 | unfold F6.j1 | unfold F6.f) <;> repeat' (with_reducible first | exact ih0 _ _ _ _ | exact ih1 _ _ _ _ | exact F39.m _ _ _ | exact F71.m _ _ _ | exact F70.m _ _ _ | exact F63.m _ _ _ | exact F66.m _ _ _ _ | exact F50.m _ _ _ _ | exact F28.m _ _ _ | exact F36.m _ _ _ | exact F24.m _ _ | exact F37.m _ _ _ | exact LeO.refl _ | exact LeO.none _ | refine LeO.ite ?_ ?_ | refine LeO.bind ?_ fun _ => ?_)
theorem F6.ml : ∀ k, F6.M k
 | 0 => ⟨fun _ _ _ _ r h => by simp [F6.j0] at h, fun _ _ _ _ r h => by simp [F6.j1] at h⟩
 | k + 1 => (F6.mt k (F6.ml k)).1
theorem F6.m a0 a1 a2 k : LeO (F6.f k a0 a1 a2) (F6.f (k + 1) a0 a1 a2) := (F6.mt k (F6.ml k)).2 a0 a1 a2
def F6.T24 : Bool × List (List Nat × List Nat) := (true, [([], []), ([0], [0]), ([1], [1]), ([2], [2]), ([], []), ([4], [4]), ([5, 2], [5]), ([3, 6], [3, 6]), ([7, 6, 0, 1, 2, 3, 4, 5, 6, 7], [7])])
def F6.B24 : List Nat := [0, 1, 3, 7, 0, 16, 55, 127, 255]
theorem F6.tab24 : rtab .any (opsOf f125 24) = F6.T24 := by kernel_rfl
theorem F6.bits24 : waitsOk F6.T24.2 F6.B24 = true := by kernel_rfl
theorem F6.c (k : Nat) (a0_0 : Int) (a0_1 : Int) (a1 : ByteArray) (r : ByteArray) (w : World) (hG : Glob w) (H : F6.f k a0_0 a0_1 a1 = some r) :
  Calls prog 125 #[.agg #[.int .i64 a0_0, .int .i64 a0_1], .string a1] w fun e w' => e = .returned (.string r) ∧ Below w.heap.size w w' := by
 have hu31 := underlying31
 have hu116 := underlying116
 have hu150 := underlying150
 have HB := sqh w
 unfold F6.f at H
 by_cases c3 : a1.toList = ([116, 101, 120, 116] : List UInt8)
 ·rw [if_pos c3] at H
  have c3b0 : (a1.toList == ([116, 101, 120, 116] : List UInt8)) = true := sqe1 c3
  have c3b1 : (a1.toList != ([116, 101, 120, 116] : List UInt8)) = false := sqn0 c3
  clear c3
  obtain ⟨t0, A4, H⟩ := sqD H
  obtain rfl := sqo H
  go_enter func125, ntmps125
  go_wp2_with (first | ((with_reducible refine sqd 2 rfl ?_); refine sqBx w (sqB HB) (cs := #[.int .i64 a0_0, .int .i64 a0_1]) (t := 31) ?_; intro g0 hg w5 B0 E0 HB hb; clear hb hg; have := sqY2 B0) | ((with_reducible refine sqc 141 rfl ?_); refine sqC (some 17) func141 #[.agg #[.int .i64 a0_0, .int .i64 a0_1]] ?_; (with_reducible refine (F51.c a0_0 a0_1 t0 _ ?sideG A4.1).mono ?_); (case sideG => exact Z59 E0); refine sqV fun w7 hb => ?_; replace B0 := sqT B0 hb; replace HB := sqS (sqB1 HB E0) hb))
  go_ret
  exact ⟨Z14, sqB1 HB E0⟩
 rw [if_neg c3] at H
 have c3b0 : (a1.toList == ([116, 101, 120, 116] : List UInt8)) = false := sqe0 c3
 have c3b1 : (a1.toList != ([116, 101, 120, 116] : List UInt8)) = true := sqn1 c3
 by_cases c8 : a1.toList = ([109, 111, 118, 101, 115] : List UInt8)
 ·rw [if_pos c8] at H
  have c8b0 : (a1.toList == ([109, 111, 118, 101, 115] : List UInt8)) = true := sqe1 c8
  have c8b1 : (a1.toList != ([109, 111, 118, 101, 115] : List UInt8)) = false := sqn0 c8
  clear c8
  obtain ⟨t1, A9, H⟩ := sqD H
  by_cases c10 : t1 = true
  ·subst c10
   rw [if_pos rfl] at H
   obtain ⟨t2, A0, H⟩ := sqD H
   obtain ⟨c0, H⟩ := sqI H
   have c1 := eq_true c0
   have c2 : decide (1 + t2.size ≤ 9223372036854775807) = true := decide_eq_true c0
   try have c4 : (9223372036854775807 < 1 + t2.size) = False := eq_false (Nat.not_lt.2 c0)
   obtain rfl := sqo H
   go_enter func125, ntmps125
   go_wp2_with (first | ((with_reducible refine sqd 2 rfl ?_); refine sqBx w (sqB HB) (cs := #[.int .i64 a0_0, .int .i64 a0_1]) (t := 31) ?_; intro g0 hg w0 B0 E0 HB hb; clear hb hg; have := sqY2 B0) | ((with_reducible refine sqc 104 rfl ?_); refine sqC (some 21) func104 #[.agg #[.int .i64 a0_0, .int .i64 a0_1], .int .i64 12] ?_; (with_reducible refine (F50.c k a0_0 a0_1 12 true _ A9.1).mono ?_); refine sqV fun w1 hb => ?_; replace B0 := sqT B0 hb; replace HB := sqS (sqB1 HB E0) hb; have := sqY2 B0) | ((with_reducible refine sqc 105 rfl ?_); refine sqC (some 24) func105 #[.agg #[.int .i64 a0_0, .int .i64 a0_1]] ?_; (with_reducible refine (F37.c k a0_0 a0_1 t2 _ A0.1).mono ?_); refine sqV fun w2 hb => ?_; replace B0 := sqT B0 hb; replace HB := sqS (sqB1 HB E0) hb))
   go_ret
   exact ⟨Z14, sqB1 HB E0⟩
  obtain rfl := sqb c10
  rw [if_neg sqF] at H
  obtain rfl := sqo H
  go_enter func125, ntmps125
  go_wp2_with (first | ((with_reducible refine sqd 2 rfl ?_); refine sqBx w (sqB HB) (cs := #[.int .i64 a0_0, .int .i64 a0_1]) (t := 31) ?_; intro g0 hg w3 B0 E0 HB hb; clear hb hg; have := sqY2 B0) | ((with_reducible refine sqc 104 rfl ?_); refine sqC (some 21) func104 #[.agg #[.int .i64 a0_0, .int .i64 a0_1], .int .i64 12] ?_; (with_reducible refine (F50.c k a0_0 a0_1 12 false _ A9.1).mono ?_); refine sqV fun w4 hb => ?_; replace B0 := sqT B0 hb; replace HB := sqS (sqB1 HB E0) hb))
  go_ret
  exact ⟨Z14, sqB1 HB E0⟩
 rw [if_neg c8] at H
 have c8b0 : (a1.toList == ([109, 111, 118, 101, 115] : List UInt8)) = false := sqe0 c8
 have c8b1 : (a1.toList != ([109, 111, 118, 101, 115] : List UInt8)) = true := sqn1 c8
 by_cases c21 : a1.toList = ([116, 101, 114, 109, 115] : List UInt8)
 ·rw [if_pos c21] at H
  have c5 := sqe1 c21
  have c6 := sqn0 c21
  clear c21
  obtain ⟨⟨t3, t4⟩, A1, H⟩ := sqD H
  try dsimp only at H
  by_cases c7 : t4 = true
  ·subst c7
   rw [if_pos rfl] at H
   obtain ⟨t5, A2, H⟩ := sqD H
   obtain rfl := sqo H
   go_enter func125, ntmps125
   go_wp2_with (first | ((with_reducible refine sqd 2 rfl ?_); refine sqBx w (sqB HB) (cs := #[.int .i64 a0_0, .int .i64 a0_1]) (t := 31) ?_; intro g0 hg w6 B0 E0 HB hb; clear hb hg; have := sqY2 B0) | ((with_reducible refine sqc 142 rfl ?_); refine sqC (some 30) func142 #[.agg #[.int .i64 a0_0, .int .i64 a0_1]] ?_; (with_reducible refine (F63.c k a0_0 a0_1 t3 true _ A1.1).mono ?_); rintro e w8 ⟨v0, rfl, ho0, hb⟩; refine ⟨_, rfl, ?_⟩; have O0 := sqL ho0 (sqB1 HB E0); replace B0 := sqT B0 hb; replace HB := sqS (sqB1 HB E0) hb; (try clear ho0); obtain ⟨Ao0, co0, eo0⟩ := Kd.R_slice O0.1; subst eo0) | ((with_reducible refine sqc 143 rfl ?_); refine sqC (some 36) func143 #[.slice Ao0 t3.length co0] ?_; (with_reducible refine (F24.c k _ _ t3 t5 _ ?sideG ?side1 ?side2 A2.1).mono ?_); (case sideG => exact Z59 E0); (case side1 => exact Z47 O0); (case side2 => exact Z48 O0); refine sqV fun w9 hb => ?_; replace O0 := sqU O0 hb; replace B0 := sqT B0 hb; replace HB := sqS (sqB1 HB E0) hb))
   go_ret
   exact ⟨Z14, sqB1 HB E0⟩
  obtain rfl := sqb c7
  rw [if_neg sqF] at H
  obtain rfl := sqo H
  go_enter func125, ntmps125
  go_wp2_with (first | ((with_reducible refine sqd 2 rfl ?_); refine sqBx w (sqB HB) (cs := #[.int .i64 a0_0, .int .i64 a0_1]) (t := 31) ?_; intro g0 hg w30 B0 E0 HB hb; clear hb hg; have := sqY2 B0) | ((with_reducible refine sqc 142 rfl ?_); refine sqC (some 30) func142 #[.agg #[.int .i64 a0_0, .int .i64 a0_1]] ?_; (with_reducible refine (F63.c k a0_0 a0_1 t3 false _ A1.1).mono ?_); rintro e w32 ⟨v0, rfl, ho0, hb⟩; refine ⟨_, rfl, ?_⟩; have O0 := sqL ho0 (sqB1 HB E0); replace B0 := sqT B0 hb; replace HB := sqS (sqB1 HB E0) hb; (try clear ho0)))
  go_ret
  exact ⟨Z14, sqB1 HB E0⟩
 rw [if_neg c21] at H
 have c5 := sqe0 c21
 have c6 := sqn1 c21
 by_cases c9 : a1.toList = ([99, 114, 111, 115, 115, 105, 110, 103, 115] : List UInt8)
 ·rw [if_pos c9] at H
  have c11 := sqe1 c9
  have c13 := sqn0 c9
  clear c9
  obtain ⟨t6, A3, H⟩ := sqD H
  obtain ⟨t7, A5, H⟩ := sqD H
  obtain rfl := sqo H
  go_enter func125, ntmps125
  go_wp2_with (first | ((with_reducible refine sqd 2 rfl ?_); refine sqBx w (sqB HB) (cs := #[.int .i64 a0_0, .int .i64 a0_1]) (t := 31) ?_; intro g0 hg w36 B0 E0 HB hb; clear hb hg; have := sqY2 B0) | ((with_reducible refine sqc 145 rfl ?_); refine sqC (some 40) func145 #[.agg #[.int .i64 a0_0, .int .i64 a0_1]] ?_; (with_reducible refine (F39.c k a0_0 a0_1 t6 _ A3.1).mono ?_); refine sqV fun w38 hb => ?_; replace B0 := sqT B0 hb; replace HB := sqS (sqB1 HB E0) hb) | ((with_reducible refine sqc 144 rfl ?_); refine sqC (some 41) func144 #[.int .i64 t6] ?_; (with_reducible refine (strconv_Itoa.calls t6 t7 _ ?sideG A5.1).mono ?_); (case sideG => exact Z59 E0); refine sqV fun w39 hb => ?_; replace B0 := sqT B0 hb; replace HB := sqS (sqB1 HB E0) hb))
  go_ret
  exact ⟨Z14, sqB1 HB E0⟩
 rw [if_neg c9] at H
 have c11 := sqe0 c9
 have c13 := sqn1 c9
 by_cases c40 : a1.toList = ([101, 110, 100, 115] : List UInt8)
 ·rw [if_pos c40] at H
  have c15 := sqe1 c40
  have c16 := sqn0 c40
  clear c40
  obtain ⟨t8, A6, H⟩ := sqD H
  obtain ⟨t9, A7, H⟩ := sqD H
  obtain rfl := sqo H
  go_enter func125, ntmps125
  go_wp2_with (first | ((with_reducible refine sqd 2 rfl ?_); refine sqBx w (sqB HB) (cs := #[.int .i64 a0_0, .int .i64 a0_1]) (t := 31) ?_; intro g0 hg w43 B0 E0 HB hb; clear hb hg; have := sqY2 B0) | ((with_reducible refine sqc 146 rfl ?_); refine sqC (some 45) func146 #[.agg #[.int .i64 a0_0, .int .i64 a0_1]] ?_; (with_reducible refine (F71.c k a0_0 a0_1 t8 _ A6.1).mono ?_); rintro e w45 ⟨v1, rfl, ho0, hb⟩; refine ⟨_, rfl, ?_⟩; have O1 := sqL ho0 (sqB1 HB E0); replace B0 := sqT B0 hb; replace HB := sqS (sqB1 HB E0) hb; (try clear ho0); obtain ⟨Ao1, co1, eo1⟩ := Kd.R_slice O1.1; subst eo1) | ((with_reducible refine sqc 143 rfl ?_); refine sqC (some 46) func143 #[.slice Ao1 t8.length co1] ?_; (with_reducible refine (F24.c k _ _ t8 t9 _ ?sideG ?side1 ?side2 A7.1).mono ?_); (case sideG => exact Z59 E0); (case side1 => exact Z47 O1); (case side2 => exact Z48 O1); refine sqV fun w47 hb => ?_; replace O1 := sqU O1 hb; replace B0 := sqT B0 hb; replace HB := sqS (sqB1 HB E0) hb))
  go_ret
  exact ⟨Z14, sqB1 HB E0⟩
 rw [if_neg c40] at H
 have c15 := sqe0 c40
 have c16 := sqn1 c40
 by_cases c48 : a1.toList = ([114, 105, 110, 103, 115] : List UInt8)
 ·rw [if_pos c48] at H
  have c18 := sqe1 c48
  have c19 := sqn0 c48
  clear c48
  obtain ⟨t10, A8, H⟩ := sqD H
  obtain ⟨t11, A50, H⟩ := sqD H
  obtain rfl := sqo H
  go_enter func125, ntmps125
  go_wp2_with (first | ((with_reducible refine sqd 2 rfl ?_); refine sqBx w (sqB HB) (cs := #[.int .i64 a0_0, .int .i64 a0_1]) (t := 31) ?_; intro g0 hg w51 B0 E0 HB hb; clear hb hg; have := sqY2 B0) | ((with_reducible refine sqc 147 rfl ?_); refine sqC (some 50) func147 #[.agg #[.int .i64 a0_0, .int .i64 a0_1]] ?_; (with_reducible refine (F70.c k a0_0 a0_1 t10 _ A8.1).mono ?_); refine sqV fun w53 hb => ?_; replace B0 := sqT B0 hb; replace HB := sqS (sqB1 HB E0) hb) | ((with_reducible refine sqc 144 rfl ?_); refine sqC (some 51) func144 #[.int .i64 t10] ?_; (with_reducible refine (strconv_Itoa.calls t10 t11 _ ?sideG A50.1).mono ?_); (case sideG => exact Z59 E0); refine sqV fun w54 hb => ?_; replace B0 := sqT B0 hb; replace HB := sqS (sqB1 HB E0) hb))
  go_ret
  exact ⟨Z14, sqB1 HB E0⟩
 rw [if_neg c48] at H
 have c18 := sqe0 c48
 have c19 := sqn1 c48
 by_cases c55 : a1.toList = ([108, 105, 110, 107] : List UInt8)
 ·rw [if_pos c55] at H
  have c22 := sqe1 c55
  have c24 := sqn0 c55
  clear c55
  obtain ⟨⟨t12, t13, t14⟩, A56, H⟩ := sqD H
  try dsimp only at H
  by_cases c57 : t14 = true
  ·subst c57
   rw [if_pos rfl] at H
   obtain ⟨⟨t15, t16⟩, A58, H⟩ := sqD H
   try dsimp only at H
   obtain ⟨t17, A59, H⟩ := sqD H
   obtain ⟨c60, H⟩ := sqI H
   have c27 := eq_true c60
   have c28 : decide (t17.size + 1 ≤ 9223372036854775807) = true := decide_eq_true c60
   try have c29 : (9223372036854775807 < t17.size + 1) = False := eq_false (Nat.not_lt.2 c60)
   obtain ⟨t18, A61, H⟩ := sqD H
   obtain ⟨c62, H⟩ := sqI H
   have c31 := eq_true c62
   have c32 : decide ((t17 ++ (⟨#[58]⟩ : ByteArray)).size + t18.size ≤ 9223372036854775807) = true := decide_eq_true c62
   try have c34 : (9223372036854775807 < (t17 ++ (⟨#[58]⟩ : ByteArray)).size + t18.size) = False := eq_false (Nat.not_lt.2 c62)
   try have c35 : (9223372036854775807 < t17.size + 1 + t18.size) = False := by (have h_ := c34; (repeat rw [ByteArray.size_append] at h_); exact h_)
   obtain rfl := sqo H
   go_enter func125, ntmps125
   try go_wp2_with (first | ((with_reducible refine sqd 2 rfl ?_); refine sqBx w (sqB HB) (cs := #[.int .i64 a0_0, .int .i64 a0_1]) (t := 31) ?_; intro g0 hg w63 B0 E0 HB hb; clear hb hg; have := sqY2 B0) | ((with_reducible refine sqc 148 rfl ?_); refine sqC (some 56) func148 #[.agg #[.int .i64 a0_0, .int .i64 a0_1]] ?_; (with_reducible refine (F36.c k a0_0 a0_1 t12 t13 true _ A56.1).mono ?_); refine sqV fun w65 hb => ?_; replace B0 := sqT B0 hb; replace HB := sqS (sqB1 HB E0) hb) | ((with_reducible refine sqd 7 rfl ?_); refine sqBx w (sqB1 HB E0) (cs := #[.int .i64 0, .int .i64 0]) (t := 116) ?_; intro g1 hg w66 B2 E1 HB hb; obtain ⟨N0, N1⟩ := sqM hg B0; replace B0 := sqT B0 hb; clear hb hg; have := sqn2 N1 N0; have := sqY2 B2) | ((with_reducible refine sqc 149 rfl ?_); refine sqC (some 62) func149 #[.agg #[.int .i64 t12, .int .i64 t13]] ?_; (with_reducible refine (F28.c k t12 t13 t15 t16 _ A58.1).mono ?_); refine sqV fun w69 hb => ?_; replace B0 := sqH N0 B0 hb; replace B2 := sqa (blk_below (g := g1) (o := .cells #[.int .i64 t12, .int .i64 t13] 116 (0, 0)) (by refine sqPut (cs := #[.int .i64 t12, .int .i64 0]) ?_ 1; refine sqPut (cs := #[.int .i64 0, .int .i64 0]) ?_ 0; exact sqK B2) hb); replace HB := sqS (sqB2 HB E0 E1) hb; have := sqY2 B2))
   obtain ⟨w71, hw_⟩ : ∃ w_, (w69.setCell ⟨g1, 0, none⟩ (.int .i64 t15)).setCell ⟨g1, 1, none⟩ (.int .i64 t16) = w_ := ⟨_, rfl⟩
   replace B0 := sqJ hw_ N0 B0
   replace B2 : Aside0 (w71.heap[g1]? = some (.cells #[.int .i64 t15, .int .i64 t16] 116 (0, 0))) := by rw [← hw_]; exact ⟨by refine sqPut (cs := #[.int .i64 t15, .int .i64 t13]) ?_ 1; refine sqPut (cs := #[.int .i64 t12, .int .i64 t13]) ?_ 0; exact sqK B2⟩
   replace HB : Aside0 (Below w.heap.size w w71) := by rw [← hw_]; exact ⟨sqB2 HB E0 E1⟩
   rw [hw_]; clear hw_
   replace B0 := sqa (blk_drew B0.1)
   replace B2 := sqa (blk_drew B2.1)
   replace HB := sqa (below_drew1 HB.1)
   refine start_ (n := 9) (S := fun w' => w'.cell? ⟨g1, 0, none⟩ = some (.int .i64 t15) ∧ w'.cell? ⟨g1, 1, none⟩ = some (.int .i64 t16)) (ds := []) #[false, false, false, false, false, false, false, false, false] (by kernel_rfl) rfl rfl (sqk1 B2) (fun hHeld => ?_); refine with_tabW F6.tab24 F6.bits24 (fun HT_ HW_ => ?_)
   generalize w71.drew = w72 at B0 B2 HB hHeld ⊢
   refine sqP 0 (some 63) (h := ?_)
   refine sqP 4 (some 67) (h := ?_)
   refine sqQ 1 (some 64) hHeld (h := ?_)
   refine sqQ 5 (some 68) hHeld (h := ?_)
   refine sq1 2 (some 65) (h := fun K hK => ?_)
   refine sqg func144 #[.int .i64 t15] ?_
   with_reducible refine (strconv_Itoa.calls t15 t17 _ ?sideG A59.1).mono ?_
   (case sideG => exact Z56 E0 E1)
   rintro e w73 ⟨rfl, hb⟩
   refine ⟨_, rfl, ?_⟩
   replace B0 := sqT B0 hb
   replace B2 := sqT B2 hb
   replace HB := sqS (sqB2 HB E0 E1) hb
   refine hK.out _ _ (sqk1 B2) (fun hHeld => ?_)
   clear hK K
   refine sqN (some 65) ?_
   refine sqP 3 (some 66) (h := ?_)
   refine sq1 6 (some 69) (h := fun K hK => ?_)
   refine sqg func144 #[.int .i64 t16] ?_
   with_reducible refine (strconv_Itoa.calls t16 t18 _ ?sideG A61.1).mono ?_
   (case sideG => exact Z56 E0 E1)
   rintro e w74 ⟨rfl, hb⟩
   refine ⟨_, rfl, ?_⟩
   replace B0 := sqT B0 hb
   replace B2 := sqT B2 hb
   replace HB := sqS (sqB2 HB E0 E1) hb
   refine hK.out _ _ (sqk1 B2) (fun hHeld => ?_)
   clear hK K
   refine sqN (some 69) ?_
   refine sqP 7 (some 70) (h := ?_)
   refine sqP 8 (some 4) (h := ?_)
   refine done_ (done_of HT_.out (by kernel_rfl)) ?_
   try go_wp2
   go_ret
   exact ⟨Z14, sqB2 HB E0 E1⟩
  obtain rfl := sqb c57
  rw [if_neg sqF] at H
  obtain rfl := sqo H
  go_enter func125, ntmps125
  go_wp2_with (first | ((with_reducible refine sqd 2 rfl ?_); refine sqBx w (sqB HB) (cs := #[.int .i64 a0_0, .int .i64 a0_1]) (t := 31) ?_; intro g0 hg w75 B0 E0 HB hb; clear hb hg; have := sqY2 B0) | ((with_reducible refine sqc 148 rfl ?_); refine sqC (some 56) func148 #[.agg #[.int .i64 a0_0, .int .i64 a0_1]] ?_; (with_reducible refine (F36.c k a0_0 a0_1 t12 t13 false _ A56.1).mono ?_); refine sqV fun w77 hb => ?_; replace B0 := sqT B0 hb; replace HB := sqS (sqB1 HB E0) hb) | ((with_reducible refine sqd 7 rfl ?_); refine sqBx w (sqB1 HB E0) (cs := #[.int .i64 0, .int .i64 0]) (t := 116) ?_; intro g1 hg w78 B2 E1 HB hb; obtain ⟨N0, N1⟩ := sqM hg B0; replace B0 := sqT B0 hb; clear hb hg; have := sqn2 N1 N0; have := sqY2 B2))
  go_ret
  exact ⟨Z14, sqB2 HB E0 E1⟩
 rw [if_neg c55] at H
 have c22 := sqe0 c55
 have c24 := sqn1 c55
 obtain ⟨⟨t19, t20⟩, A81, H⟩ := sqD H
 try dsimp only at H
 obtain ⟨⟨t21, t22⟩, A82, H⟩ := sqD H
 try dsimp only at H
 have HC0 := sqa H
 clear H
 go_enter func125, ntmps125
 go_upto_region 27 with (first | ((with_reducible refine sqd 2 rfl ?_); refine sqBx w (sqB HB) (cs := #[.int .i64 a0_0, .int .i64 a0_1]) (t := 31) ?_; intro g0 hg w84 B0 E0 HB hb; clear hb hg) | ((with_reducible refine sqc 150 rfl ?_); refine sqC (some 73) func150 #[.string a1, .string (⟨#[99, 111, 108, 111, 117, 114, 115, 32]⟩ : ByteArray)] ?_; (with_reducible refine (strings_CutPrefix.calls a1 (⟨#[99, 111, 108, 111, 117, 114, 115, 32]⟩ : ByteArray) t19 t20 _ A81.1).mono ?_); rintro e w' ⟨rfl, ⟨nd, rfl⟩⟩; refine ⟨_, rfl, ?_⟩) | ((with_reducible refine sqc 151 rfl ?_); refine sqC (some 78) func151 #[.string t19] ?_; (with_reducible refine (strconv_Atoi.calls t19 t21 t22 _ ?sideG A82.1).mono ?_); (case sideG => exact Z59 E0); rintro e w85 ⟨q_t0, hq_t0, rfl, hb⟩; refine ⟨_, rfl, ?_⟩; replace B0 := sqT B0 hb; replace HB := sqS (sqB1 HB E0) hb; (try simp only [errP_none, errP_some])))
 (try simp only [Act.put, List.setIfInBounds_toArray, List.set_cons_zero, List.set_cons_succ])
 go_cut [100] (fun v2 wc => ∃ (kq : Nat) (x0 : Bool), v2 = .bool x0 ∧ Aside0 (F6.j0 kq t21 x0 a0_0 a0_1 = some r) ∧ Aside0 (kq ≤ k) ∧ Aside0 (wc.heap[g0]? = some (.cells #[.int .i64 a0_0, .int .i64 a0_1] 31 (0, 0))) ∧ Aside0 (Below w.heap.size w wc))
 case first =>
  have H := HC0.1
  clear HC0
  by_cases c86 : t20 = true
  ·subst c86
   rw [if_pos rfl] at H
   rcases t22 with _ | q0
   ·obtain rfl := isNone_none hq_t0
    have H1 : (if t21 < 0 then (F6.j0 k t21 true a0_0 a0_1) else (if t21 > 9999999 then (F6.j0 k t21 true a0_0 a0_1) else ((strconv_Itoa.f t21).bind fun t23 => (F6.j0 k t21 (t23.toList != t19.toList) a0_0 a0_1)))) = some r := by rw [if_pos (show (none : Option Int).isNone = true by rfl)] at H; exact H
    clear H
    have H := H1
    clear H1
    try simp only [errP_none, errP_some]
    by_cases c87 : t21 < 0
    ·rw [if_pos c87] at H
     have c38 : decide (t21 < 0) = true := decide_eq_true c87
     clear c87
     (first | rw [c38] | (simp only [i64_w, i32_w]; rw [c38]) | skip)
     have H' := sqa H
     clear H
     go_wp2
     go_meet
     case rel => exact ⟨_, (true), Z2, H', ⟨Z3⟩, ⟨sqK B0⟩, ⟨sqB1 HB E0⟩⟩
    rw [if_neg c87] at H
    have c38 : decide (t21 < 0) = false := decide_eq_false c87
    clear c87
    (first | rw [c38] | (simp only [i64_w, i32_w]; rw [c38]) | skip)
    by_cases c88 : t21 > 9999999
    ·rw [if_pos c88] at H
     have c41 : decide (9999999 < t21) = true := decide_eq_true c88
     clear c88
     have H' := sqa H
     clear H
     go_wp2
     go_meet
     case rel => exact ⟨_, (true), Z2, H', ⟨Z3⟩, ⟨sqK B0⟩, ⟨sqB1 HB E0⟩⟩
    rw [if_neg c88] at H
    have c41 : decide (9999999 < t21) = false := decide_eq_false c88
    clear c88
    obtain ⟨t23, A89, H⟩ := sqD H
    have H' := sqa H
    clear H
    go_wp2_with (first | (go_at_call 144; (with_reducible refine (strconv_Itoa.calls t21 t23 _ ?sideG A89.1).mono ?_); (case sideG => exact Z59 E0); rintro e w90 ⟨rfl, hb⟩; replace B0 := sqT B0 hb; replace HB := sqS (sqB1 HB E0) hb))
    go_meet
    case rel => exact ⟨_, ((t23.toList != t19.toList)), Z2, H', ⟨Z3⟩, ⟨sqK B0⟩, ⟨sqB1 HB E0⟩⟩
   ·obtain ⟨qz_, rfl⟩ := isNone_some hq_t0
    have H1 : (F6.j0 k t21 true a0_0 a0_1) = some r := by rw [if_neg (show ¬ (some q0).isNone = true by simp)] at H; exact H
    clear H
    have H := H1
    clear H1
    try simp only [errP_none, errP_some]
    have H' := sqa H
    clear H
    go_wp2
    go_meet
    case rel => exact ⟨_, (true), Z2, H', ⟨Z3⟩, ⟨sqK B0⟩, ⟨sqB1 HB E0⟩⟩
  obtain rfl := sqb c86
  rw [if_neg sqF] at H
  have H' := sqa H
  clear H
  go_wp2
  go_meet
  case rel => exact ⟨_, (true), Z2, H', ⟨Z3⟩, ⟨sqK B0⟩, ⟨sqB1 HB E0⟩⟩
 case rest =>
  clear HC0
  obtain ⟨kq, x0, rfl, HA, HJ0, B0, HB⟩ := hcut
  cases kq with
  | zero => exact absurd HA.out (by simp [F6.j0])
  | succ kj0 =>
   have H := HA.out
   clear HA
   simp only [F6.j0] at H
   by_cases c91 : x0 = true
   ·subst c91
    rw [if_pos rfl] at H
    obtain rfl := sqo H
    go_wp2
    go_ret
    exact ⟨Z14, sqB1 HB E0⟩
   obtain rfl := sqb c91
   rw [if_neg sqF] at H
   have HC1 := sqa H
   clear H
   go_upto_region 29 with (fail)
   go_cut [106] (fun v3 wc => ∃ (kq : Nat) (x1 : Bool), v3 = .bool x1 ∧ Aside0 (F6.j1 kq t21 x1 a0_0 a0_1 = some r) ∧ Aside0 (kq ≤ kj0) ∧ Aside0 (wc.heap[g0]? = some (.cells #[.int .i64 a0_0, .int .i64 a0_1] 31 (0, 0))) ∧ Aside0 (Below w.heap.size w wc))
   case first =>
    have H := HC1.1
    clear HC1
    by_cases c93 : t21 < 1
    ·rw [if_pos c93] at H
     have c44 : decide (t21 < 1) = true := decide_eq_true c93
     clear c93
     (first | rw [c44] | (simp only [i64_w, i32_w]; rw [c44]) | skip)
     have H' := sqa H
     clear H
     go_wp2
     go_meet
     case rel => exact ⟨_, (true), Z2, H', ⟨by have := HJ0.out; first | omega | exact Nat.le_refl _⟩, ⟨sqK B0⟩, ⟨sqB1 HB E0⟩⟩
    rw [if_neg c93] at H
    have c44 : decide (t21 < 1) = false := decide_eq_false c93
    clear c93
    (first | rw [c44] | (simp only [i64_w, i32_w]; rw [c44]) | skip)
    have H' := sqa H
    clear H
    go_wp2
    go_meet
    case rel => exact ⟨_, (decide (t21 > 12)), Z2, H', ⟨by have := HJ0.out; first | omega | exact Nat.le_refl _⟩, ⟨sqK B0⟩, ⟨sqB1 HB E0⟩⟩
   case rest =>
    clear HC1
    obtain ⟨kq, x1, rfl, HA, HJ1, B0, HB⟩ := hcut
    cases kq with
    | zero => exact absurd HA.out (by simp [F6.j1])
    | succ kj1 =>
     have H := HA.out
     clear HA
     simp only [F6.j1] at H
     by_cases c94 : x1 = true
     ·subst c94
      rw [if_pos rfl] at H
      obtain rfl := sqo H
      go_wp2
      go_ret
      exact ⟨Z14, sqB1 HB E0⟩
     obtain rfl := sqb c94
     rw [if_neg sqF] at H
     obtain ⟨t24, A95, H⟩ := sqD H
     obtain ⟨t25, A96, H⟩ := sqD H
     obtain rfl := sqo H
     have := sqY2 B0
     go_wp2_with (first | ((with_reducible refine sqc 152 rfl ?_); refine sqC (some 109) func152 #[.agg #[.int .i64 a0_0, .int .i64 a0_1], .int .i64 t21] ?_; (with_reducible refine (F66.c kj1 a0_0 a0_1 t21 t24 _ A95.1).mono ?_); refine sqV fun w98 hb => ?_; replace B0 := sqT B0 hb; replace HB := sqS (sqB1 HB E0) hb) | ((with_reducible refine sqc 144 rfl ?_); refine sqC (some 110) func144 #[.int .i64 t24] ?_; (with_reducible refine (strconv_Itoa.calls t24 t25 _ ?sideG A96.1).mono ?_); (case sideG => exact Z59 E0); refine sqV fun w99 hb => ?_; replace B0 := sqT B0 hb; replace HB := sqS (sqB1 HB E0) hb))
     go_ret
     exact ⟨Z14, sqB1 HB E0⟩
end Go.Proofs.YtofmlbgfcohhoaaGreatDoor.PFnReadJournal
