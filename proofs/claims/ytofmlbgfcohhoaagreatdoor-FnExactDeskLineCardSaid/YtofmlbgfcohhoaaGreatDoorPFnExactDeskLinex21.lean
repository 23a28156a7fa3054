/- Lean functions of the Go functions that the law FnExactDeskLine reaches, each with its contract: made by a program of this session. -/
import Derived.Test.YtofmlbgfcohhoaaGreatDoorPFnExactDeskLinex12
namespace Go.Proofs.YtofmlbgfcohhoaaGreatDoor.PFnExactDeskLine
open Go.RowKit Go.Proofs.YtofmlbgfcohhoaaGreatDoorW.PrintWords Go.Proofs.YtofmlbgfcohhoaaGreatDoorW.PrintLast Go.Proofs.YtofmlbgfcohhoaaGreatDoorW.PrintMore Go.Proofs.YtofmlbgfcohhoaaGreatDoor.Lib
attribute [local go_sem] max2_int min2_int max_two min_two max_three min_three max_four min_four   -- for this text's walks alone
set_option linter.unusedVariables false
set_option linter.unusedSimpArgs false

/-! ### spec_RingsOf: function 96 -/
def spec_RingsOf.f (k : Nat) (a0_0 : Int) (a0_1 : Int) : Option (Int) := (spec_FractionOk.f k a0_0 a0_1).bind fun t629 => (if t629 = true then (if (Int.tmod a0_0 2) = 0 then (some 2) else (some 1)) else (some (-1)))
theorem spec_RingsOf.mono : ∀ a0 a1 k, LeO (spec_RingsOf.f k a0 a1) (spec_RingsOf.f (k + 1) a0 a1) := by
 intro a0 a1 k
 unfold spec_RingsOf.f
 repeat' (with_reducible first | exact spec_FractionOk.mono _ _ _ | exact LeO.refl _ | exact LeO.none _ | refine LeO.ite ?_ ?_ | refine LeO.bind ?_ fun _ => ?_)
set_option maxHeartbeats 8000000 in
set_option maxRecDepth 100000 in
theorem spec_RingsOf.calls (k : Nat) (a0_0 : Int) (a0_1 : Int) (r : Int) (w : World) (h : spec_RingsOf.f k a0_0 a0_1 = some r) :
  Calls Tryz.prog 96 #[.agg #[.int .i64 a0_0, .int .i64 a0_1]] w fun e w' => e = .returned (.int .i64 r) ∧ Below w.heap.size w w' := by
 have hu31 := Tryz.underlying31
 have HB := Aside0.mk (Below.refl w.heap.size w)
 unfold spec_RingsOf.f at h
 have H := h
 clear h
 obtain ⟨t629, A2, H⟩ := sqD H
 by_cases c3 : t629 = true
 ·subst c3
  rw [if_pos rfl] at H
  by_cases c4 : (Int.tmod a0_0 2) = 0
  ·rw [if_pos c4] at H
   have c4b0 : ((Int.tmod a0_0 2) == 0) = true := beq_iff_eq.mpr c4
   have c4b1 : ((Int.tmod a0_0 2) != 0) = false := bne_eq_false_iff_eq.mpr c4
   clear c4
   obtain rfl := Option.some.inj H
   go_enter Tryz.func96, Tryz.ntmps96
   go_wp2_with (first | ((with_reducible refine gate_dst (N := 1) rfl ?_); refine sqBx w (sqB HB) (N := 1) (cs := #[.int .i64 a0_0, .int .i64 a0_1]) (t := 31) ?_; intro gb628 hg w5 BK628 GE628 HB hb; clear hb hg; obtain ⟨hcz6_0, hcz6_1, hfz6_0, hfz6_1⟩ := sqY2 BK628) | ((with_reducible refine gate_callee (f := 77) rfl ?_); refine sqC (some 4) Tryz.func77 #[.agg #[.int .i64 a0_0, .int .i64 a0_1]] ?_; (with_reducible refine (spec_FractionOk.calls k a0_0 a0_1 true _ A2.out).mono ?_); rintro e w7 ⟨rfl, hb⟩; refine ⟨_, rfl, ?_⟩; replace BK628 := sqT BK628 hb; replace HB := sqS (sqB1 HB GE628) hb; (try clear hb); obtain ⟨hcz8_0, hcz8_1, hfz8_0, hfz8_1⟩ := sqY2 BK628))
   go_ret
   exact ⟨Z6, sqB1 HB GE628⟩
  rw [if_neg c4] at H
  have c4b0 : ((Int.tmod a0_0 2) == 0) = false := beq_eq_false_iff_ne.mpr c4
  have c4b1 : ((Int.tmod a0_0 2) != 0) = true := bne_iff_ne.mpr c4
  obtain rfl := Option.some.inj H
  go_enter Tryz.func96, Tryz.ntmps96
  go_wp2_with (first | ((with_reducible refine gate_dst (N := 1) rfl ?_); refine sqBx w (sqB HB) (N := 1) (cs := #[.int .i64 a0_0, .int .i64 a0_1]) (t := 31) ?_; intro gb628 hg w9 BK628 GE628 HB hb; clear hb hg; obtain ⟨hcz10_0, hcz10_1, hfz10_0, hfz10_1⟩ := sqY2 BK628) | ((with_reducible refine gate_callee (f := 77) rfl ?_); refine sqC (some 4) Tryz.func77 #[.agg #[.int .i64 a0_0, .int .i64 a0_1]] ?_; (with_reducible refine (spec_FractionOk.calls k a0_0 a0_1 true _ A2.out).mono ?_); rintro e w11 ⟨rfl, hb⟩; refine ⟨_, rfl, ?_⟩; replace BK628 := sqT BK628 hb; replace HB := sqS (sqB1 HB GE628) hb; (try clear hb); obtain ⟨hcz12_0, hcz12_1, hfz12_0, hfz12_1⟩ := sqY2 BK628))
  go_ret
  exact ⟨Z6, sqB1 HB GE628⟩
 replace c3 := Bool.eq_false_iff.mpr c3
 subst c3
 rw [if_neg sqF] at H
 obtain rfl := Option.some.inj H
 go_enter Tryz.func96, Tryz.ntmps96
 go_wp2_with (first | ((with_reducible refine gate_dst (N := 1) rfl ?_); refine sqBx w (sqB HB) (N := 1) (cs := #[.int .i64 a0_0, .int .i64 a0_1]) (t := 31) ?_; intro gb628 hg w13 BK628 GE628 HB hb; clear hb hg; obtain ⟨hcz14_0, hcz14_1, hfz14_0, hfz14_1⟩ := sqY2 BK628) | ((with_reducible refine gate_callee (f := 77) rfl ?_); refine sqC (some 4) Tryz.func77 #[.agg #[.int .i64 a0_0, .int .i64 a0_1]] ?_; (with_reducible refine (spec_FractionOk.calls k a0_0 a0_1 false _ A2.out).mono ?_); rintro e w15 ⟨rfl, hb⟩; refine ⟨_, rfl, ?_⟩; replace BK628 := sqT BK628 hb; replace HB := sqS (sqB1 HB GE628) hb; (try clear hb)))
 go_ret
 exact ⟨Z6, sqB1 HB GE628⟩

/-! ### spec_LinkOf: function 97 -/
def spec_LinkOf.j0 : Nat → Bool → Int → Int → Option (Int × Int × Bool)
 | 0, _, _, _ => none
 | k + 1, x14, x631000, x631001 => if x14 = true then (some (0, 0, false)) else (if x631000 = 0 then (some (0, 1, true)) else (if (mx x631000 (wrap64 (-x631000))) = 0 then (none) else (if x631000 < 0 then (some (mx x631000 (wrap64 (-x631000)), Int.tmod (wrap64 ((mx x631000 (wrap64 (-x631000))) - (Int.tmod x631001 (mx x631000 (wrap64 (-x631000)))))) (mx x631000 (wrap64 (-x631000))), true)) else (some (mx x631000 (wrap64 (-x631000)), Int.tmod x631001 (mx x631000 (wrap64 (-x631000))), true)))))
def spec_LinkOf.f (k : Nat) (a0_0 : Int) (a0_1 : Int) : Option (Int × Int × Bool) := (spec_FractionOk.f k a0_0 a0_1).bind fun t632 => (if t632 = true then ((spec_l1In.f a0_0 (-60) 60).bind fun t633 => (spec_LinkOf.j0 k (!t633) a0_0 a0_1)) else (spec_LinkOf.j0 k true a0_0 a0_1))
abbrev spec_LinkOf.M (k : Nat) : Prop := (∀ y0 y1 y2, LeO (spec_LinkOf.j0 k y0 y1 y2) (spec_LinkOf.j0 (k + 1) y0 y1 y2))
theorem spec_LinkOf.mono_t : ∀ k, spec_LinkOf.M k → spec_LinkOf.M (k + 1) ∧ ∀ a0 a1, LeO (spec_LinkOf.f k a0 a1) (spec_LinkOf.f (k + 1) a0 a1) := by
  rintro k ih0
  refine ⟨?_, ?_⟩ <;> (try unfold spec_LinkOf.M) <;> intros <;> (first | unfold spec_LinkOf.j0 | unfold spec_LinkOf.f) <;> repeat' (with_reducible first | exact ih0 _ _ _ | exact spec_FractionOk.mono _ _ _ | exact LeO.refl _ | exact LeO.none _ | refine LeO.ite ?_ ?_ | refine LeO.bind ?_ fun _ => ?_)
theorem spec_LinkOf.mono_l : ∀ k, spec_LinkOf.M k
 | 0 => fun _ _ _ r h => by simp [spec_LinkOf.j0] at h
 | k + 1 => (spec_LinkOf.mono_t k (spec_LinkOf.mono_l k)).1
theorem spec_LinkOf.mono a0 a1 k : LeO (spec_LinkOf.f k a0 a1) (spec_LinkOf.f (k + 1) a0 a1) := (spec_LinkOf.mono_t k (spec_LinkOf.mono_l k)).2 a0 a1
set_option maxHeartbeats 8000000 in
set_option maxRecDepth 100000 in
theorem spec_LinkOf.calls (k : Nat) (a0_0 : Int) (a0_1 : Int) (r1 : Int) (r2 : Int) (r3 : Bool) (w : World) (h : spec_LinkOf.f k a0_0 a0_1 = some (r1, r2, r3)) :
  Calls Tryz.prog 97 #[.agg #[.int .i64 a0_0, .int .i64 a0_1]] w fun e w' => e = .returned (.tuple #[.agg #[.int .i64 r1, .int .i64 r2], .bool r3]) ∧ Below w.heap.size w w' := by
 have hu31 := Tryz.underlying31
 have hu116 := Tryz.underlying116
 have HB := Aside0.mk (Below.refl w.heap.size w)
 unfold spec_LinkOf.f at h
 have H := h
 clear h
 have HC2 := Aside0.mk H
 clear H
 go_enter Tryz.func97, Tryz.ntmps97
 go_upto_region 1 with (first | ((with_reducible refine gate_dst (N := 1) rfl ?_); refine sqBx w (sqB HB) (N := 1) (cs := #[.int .i64 a0_0, .int .i64 a0_1]) (t := 31) ?_; intro gb630 hg w3 BK630 GE630 HB hb; clear hb hg) | ((with_reducible refine gate_dst (N := 2) rfl ?_); refine sqBx w (sqB1 HB GE630) (N := 2) (cs := #[.int .i64 0, .int .i64 0]) (t := 116) ?_; intro gb631 hg w4 BK631 GE631 HB hb; obtain ⟨NB630_631, NB631_630⟩ := sqM hg BK630; replace BK630 := sqT BK630 hb; clear hb hg))
 (try simp only [Act.put, List.setIfInBounds_toArray, List.set_cons_zero, List.set_cons_succ])
 go_cut [14] (fun v14 wc => ∃ (kq : Nat) (x14_1 : Bool), v14 = .bool x14_1 ∧ Aside0 (spec_LinkOf.j0 kq x14_1 a0_0 a0_1 = some (r1, r2, r3)) ∧ Aside0 (kq ≤ k) ∧ Aside0 (wc.heap[gb630]? = some (.cells #[.int .i64 a0_0, .int .i64 a0_1] 31 (0, 0))) ∧ Aside0 (wc.heap[gb631]? = some (.cells #[.int .i64 0, .int .i64 0] 116 (0, 0))) ∧ Aside0 (Below w.heap.size w wc))
 case first =>
  have H := HC2.out
  clear HC2
  obtain ⟨t632, A5, H⟩ := sqD H
  by_cases c6 : t632 = true
  ·subst c6
   rw [if_pos rfl] at H
   obtain ⟨t633, A7, H⟩ := sqD H
   have H' := Aside0.mk H
   clear H
   have hnb8 := NB630_631.out
   have hnc8 := NB631_630.out
   obtain ⟨hcz9_0, hcz9_1, hfz9_0, hfz9_1⟩ := sqY2 BK630
   go_wp2_with (first | ((with_reducible refine gate_callee (f := 77) rfl ?_); refine sqC (some 7) Tryz.func77 #[.agg #[.int .i64 a0_0, .int .i64 a0_1]] ?_; (with_reducible refine (spec_FractionOk.calls k a0_0 a0_1 true _ A5.out).mono ?_); rintro e w10 ⟨rfl, hb⟩; refine ⟨_, rfl, ?_⟩; replace BK630 := sqT BK630 hb; replace BK631 := sqT BK631 hb; replace HB := sqS (sqB2 HB GE630 GE631) hb; (try clear hb); obtain ⟨hcz11_0, hcz11_1, hfz11_0, hfz11_1⟩ := sqY2 BK630) | (go_at_call 101; (with_reducible refine (spec_l1In.calls a0_0 (-60) 60 t633 _ A7.out).mono ?_); rintro e w' ⟨rfl, ⟨nd, rfl⟩⟩))
   go_meet
   case rel => exact ⟨_, (!t633), Z2, H', ⟨Z12⟩, ⟨sqK BK630⟩, ⟨sqK BK631⟩, ⟨sqB2 HB GE630 GE631⟩⟩
  replace c6 := Bool.eq_false_iff.mpr c6
  subst c6
  rw [if_neg sqF] at H
  have H' := Aside0.mk H
  clear H
  have hnb12 := NB630_631.out
  have hnc12 := NB631_630.out
  obtain ⟨hcz13_0, hcz13_1, hfz13_0, hfz13_1⟩ := sqY2 BK630
  go_wp2_with (first | ((with_reducible refine gate_callee (f := 77) rfl ?_); refine sqC (some 7) Tryz.func77 #[.agg #[.int .i64 a0_0, .int .i64 a0_1]] ?_; (with_reducible refine (spec_FractionOk.calls k a0_0 a0_1 false _ A5.out).mono ?_); rintro e w14 ⟨rfl, hb⟩; refine ⟨_, rfl, ?_⟩; replace BK630 := sqT BK630 hb; replace BK631 := sqT BK631 hb; replace HB := sqS (sqB2 HB GE630 GE631) hb; (try clear hb)))
  go_meet
  case rel => exact ⟨_, (true), Z2, H', ⟨Z12⟩, ⟨sqK BK630⟩, ⟨sqK BK631⟩, ⟨sqB2 HB GE630 GE631⟩⟩
 case rest =>
  clear HC2
  obtain ⟨kq, x14_1, rfl, HA, HJ1, BK630, BK631, HB⟩ := hcut
  cases kq with
  | zero => exact absurd HA.out (by simp [spec_LinkOf.j0])
  | succ kj1 =>
   have H := HA.out
   clear HA
   simp only [spec_LinkOf.j0] at H
   by_cases c15 : x14_1 = true
   ·subst c15
    rw [if_pos rfl] at H
    obtain ⟨rfl, rfl, rfl⟩ := sqO3 H
    have hnb16 := NB631_630.out
    have hnc16 := NB630_631.out
    obtain ⟨hcz17_0, hcz17_1, hfz17_0, hfz17_1⟩ := sqY2 BK631
    go_wp2
    refine bodyPost_ret (results_ct rfl _ _ gb631 116 #[.int .i64 0, .int .i64 0] (0, 0) _ rfl (Z27 BK631) Tryz.underlying116 rfl (by kernel_rfl)) rfl ?_
    exact ⟨Z6, sqB2 HB GE630 GE631⟩
   replace c15 := Bool.eq_false_iff.mpr c15
   subst c15
   rw [if_neg sqF] at H
   by_cases c18 : a0_0 = 0
   ·rw [if_pos c18] at H
    have c18b0 : (a0_0 == 0) = true := beq_iff_eq.mpr c18
    have c18b1 : (a0_0 != 0) = false := bne_eq_false_iff_eq.mpr c18
    clear c18
    obtain ⟨rfl, rfl, rfl⟩ := sqO3 H
    have hnb19 := NB630_631.out
    have hnc19 := NB631_630.out
    obtain ⟨hcz20_0, hcz20_1, hfz20_0, hfz20_1⟩ := sqY2 BK630
    obtain ⟨hcz21_0, hcz21_1, hfz21_0, hfz21_1⟩ := sqY2 BK631
    go_wp2
    refine bodyPost_ret (results_ct rfl _ _ gb631 116 #[.int .i64 0, .int .i64 1] (0, 0) _ rfl (Z27 BK631) Tryz.underlying116 rfl (by kernel_rfl)) rfl ?_
    exact ⟨Z6, sqB2 HB GE630 GE631⟩
   rw [if_neg c18] at H
   have c18b0 : (a0_0 == 0) = false := beq_eq_false_iff_ne.mpr c18
   have c18b1 : (a0_0 != 0) = true := bne_iff_ne.mpr c18
   obtain ⟨ji22, hji22⟩ : ∃ j_ : Int, (mx a0_0 (wrap64 (-a0_0))) = j_ := ⟨_, rfl⟩
   replace H : (if (ji22) = 0 then (none) else (if a0_0 < 0 then (some (ji22, Int.tmod (wrap64 ((ji22) - (Int.tmod a0_1 (ji22)))) (ji22), true)) else (some (ji22, Int.tmod a0_1 (ji22), true)))) = some (r1, r2, r3) := by first | (rw [hji22] at H; exact H) | (simp only [hji22] at H ⊢; exact H)
   have hji22_ : (if a0_0 < (wrap64 (-a0_0)) then (wrap64 (-a0_0)) else a0_0) = ji22 := hji22
   by_cases c23 : (ji22) = 0
   ·rw [if_pos c23] at H
    exact absurd H (by simp)
   rw [if_neg c23] at H
   have c23b0 : ((ji22) == 0) = false := beq_eq_false_iff_ne.mpr c23
   have c23b1 : ((ji22) != 0) = true := bne_iff_ne.mpr c23
   by_cases c24 : a0_0 < 0
   ·rw [if_pos c24] at H
    have c24b0 : decide (a0_0 < 0) = true := decide_eq_true c24
    clear c24
    obtain ⟨rfl, rfl, rfl⟩ := sqO3 H
    have hnb25 := NB630_631.out
    have hnc25 := NB631_630.out
    obtain ⟨hcz26_0, hcz26_1, hfz26_0, hfz26_1⟩ := sqY2 BK630
    obtain ⟨hcz27_0, hcz27_1, hfz27_0, hfz27_1⟩ := sqY2 BK631
    go_wp2
    refine bodyPost_ret (results_ct rfl _ _ gb631 116 #[.int .i64 ji22, .int .i64 (Int.tmod (wrap64 ((ji22) - (Int.tmod a0_1 (ji22)))) (ji22))] (0, 0) _ rfl (Z60 BK631) Tryz.underlying116 rfl (by kernel_rfl)) rfl ?_
    exact ⟨Z61, sqB2 HB GE630 GE631⟩
   rw [if_neg c24] at H
   have c24b0 : decide (a0_0 < 0) = false := decide_eq_false c24
   clear c24
   obtain ⟨rfl, rfl, rfl⟩ := sqO3 H
   have hnb28 := NB630_631.out
   have hnc28 := NB631_630.out
   obtain ⟨hcz29_0, hcz29_1, hfz29_0, hfz29_1⟩ := sqY2 BK630
   obtain ⟨hcz30_0, hcz30_1, hfz30_0, hfz30_1⟩ := sqY2 BK631
   go_wp2
   refine bodyPost_ret (results_ct rfl _ _ gb631 116 #[.int .i64 ji22, .int .i64 (Int.tmod a0_1 (ji22))] (0, 0) _ rfl (Z60 BK631) Tryz.underlying116 rfl (by kernel_rfl)) rfl ?_
   exact ⟨Z61, sqB2 HB GE630 GE631⟩

/-! ### spec_LinkOk: function 132 -/
def spec_LinkOk.f (k : Nat) (a0_0 : Int) (a0_1 : Int) : Option (Bool) := if a0_0 = 0 then (some (a0_1 == 1)) else (if a0_0 = 1 then (some (a0_1 == 0)) else ((spec_l1In.f a0_0 2 60).bind fun t635 => (if t635 = true then ((spec_l1In.f a0_1 1 (wrap64 (a0_0 - 1))).bind fun t636 => (if t636 = true then ((spec_l1Common.f k a0_0 a0_1).bind fun t637 => (some (t637 == 1))) else (some false))) else (some false))))
theorem spec_LinkOk.mono : ∀ a0 a1 k, LeO (spec_LinkOk.f k a0 a1) (spec_LinkOk.f (k + 1) a0 a1) := by
 intro a0 a1 k
 unfold spec_LinkOk.f
 repeat' (with_reducible first | exact spec_l1Common.mono _ _ _ | exact LeO.refl _ | exact LeO.none _ | refine LeO.ite ?_ ?_ | refine LeO.bind ?_ fun _ => ?_)
set_option maxHeartbeats 8000000 in
set_option maxRecDepth 100000 in
theorem spec_LinkOk.calls (k : Nat) (a0_0 : Int) (a0_1 : Int) (r : Bool) (w : World) (h : spec_LinkOk.f k a0_0 a0_1 = some r) :
  Calls Tryz.prog 132 #[.agg #[.int .i64 a0_0, .int .i64 a0_1]] w fun e w' => e = .returned (.bool r) ∧ Below w.heap.size w w' := by
 have hu116 := Tryz.underlying116
 have HB := Aside0.mk (Below.refl w.heap.size w)
 unfold spec_LinkOk.f at h
 have H := h
 clear h
 by_cases c2 : a0_0 = 0
 ·rw [if_pos c2] at H
  have c2b0 : (a0_0 == 0) = true := beq_iff_eq.mpr c2
  have c2b1 : (a0_0 != 0) = false := bne_eq_false_iff_eq.mpr c2
  clear c2
  obtain rfl := Option.some.inj H
  go_enter Tryz.func132, Tryz.ntmps132
  go_wp2_with (first | ((with_reducible refine gate_dst (N := 1) rfl ?_); refine sqBx w (sqB HB) (N := 1) (cs := #[.int .i64 a0_0, .int .i64 a0_1]) (t := 116) ?_; intro gb634 hg w3 BK634 GE634 HB hb; clear hb hg; obtain ⟨hcz4_0, hcz4_1, hfz4_0, hfz4_1⟩ := sqY2 BK634))
  go_ret
  exact ⟨Z6, sqB1 HB GE634⟩
 rw [if_neg c2] at H
 have c2b0 : (a0_0 == 0) = false := beq_eq_false_iff_ne.mpr c2
 have c2b1 : (a0_0 != 0) = true := bne_iff_ne.mpr c2
 by_cases c5 : a0_0 = 1
 ·rw [if_pos c5] at H
  have c5b0 : (a0_0 == 1) = true := beq_iff_eq.mpr c5
  have c5b1 : (a0_0 != 1) = false := bne_eq_false_iff_eq.mpr c5
  clear c5
  obtain rfl := Option.some.inj H
  go_enter Tryz.func132, Tryz.ntmps132
  go_wp2_with (first | ((with_reducible refine gate_dst (N := 1) rfl ?_); refine sqBx w (sqB HB) (N := 1) (cs := #[.int .i64 a0_0, .int .i64 a0_1]) (t := 116) ?_; intro gb634 hg w6 BK634 GE634 HB hb; clear hb hg; obtain ⟨hcz7_0, hcz7_1, hfz7_0, hfz7_1⟩ := sqY2 BK634))
  go_ret
  exact ⟨Z6, sqB1 HB GE634⟩
 rw [if_neg c5] at H
 have c5b0 : (a0_0 == 1) = false := beq_eq_false_iff_ne.mpr c5
 have c5b1 : (a0_0 != 1) = true := bne_iff_ne.mpr c5
 obtain ⟨t635, A8, H⟩ := sqD H
 by_cases c9 : t635 = true
 ·subst c9
  rw [if_pos rfl] at H
  obtain ⟨t636, A10, H⟩ := sqD H
  by_cases c11 : t636 = true
  ·subst c11
   rw [if_pos rfl] at H
   obtain ⟨t637, A12, H⟩ := sqD H
   obtain rfl := Option.some.inj H
   go_enter Tryz.func132, Tryz.ntmps132
   go_wp2_with (first | ((with_reducible refine gate_dst (N := 1) rfl ?_); refine sqBx w (sqB HB) (N := 1) (cs := #[.int .i64 a0_0, .int .i64 a0_1]) (t := 116) ?_; intro gb634 hg w13 BK634 GE634 HB hb; clear hb hg; obtain ⟨hcz14_0, hcz14_1, hfz14_0, hfz14_1⟩ := sqY2 BK634) | ((with_reducible refine gate_callee (f := 101) rfl ?_); refine sqC (some 19) Tryz.func101 #[.int .i64 a0_0, .int .i64 2, .int .i64 60] ?_; (with_reducible refine (spec_l1In.calls a0_0 2 60 true _ A8.out).mono ?_); rintro e w' ⟨rfl, ⟨nd, rfl⟩⟩; refine ⟨_, rfl, ?_⟩) | (go_at_call 101; (with_reducible refine (spec_l1In.calls a0_1 1 (wrap64 (a0_0 - 1)) true _ A10.out).mono ?_); rintro e w' ⟨rfl, ⟨nd, rfl⟩⟩) | (go_at_call 121; (with_reducible refine (spec_l1Common.calls k a0_0 a0_1 t637 _ A12.out).mono ?_); rintro e w15 ⟨rfl, hb⟩; replace BK634 := sqT BK634 hb; replace HB := sqS (sqB1 HB GE634) hb; (try clear hb)))
   go_ret
   exact ⟨Z6, sqB1 HB GE634⟩
  replace c11 := Bool.eq_false_iff.mpr c11
  subst c11
  rw [if_neg sqF] at H
  obtain rfl := Option.some.inj H
  go_enter Tryz.func132, Tryz.ntmps132
  go_wp2_with (first | ((with_reducible refine gate_dst (N := 1) rfl ?_); refine sqBx w (sqB HB) (N := 1) (cs := #[.int .i64 a0_0, .int .i64 a0_1]) (t := 116) ?_; intro gb634 hg w16 BK634 GE634 HB hb; clear hb hg; obtain ⟨hcz17_0, hcz17_1, hfz17_0, hfz17_1⟩ := sqY2 BK634) | ((with_reducible refine gate_callee (f := 101) rfl ?_); refine sqC (some 19) Tryz.func101 #[.int .i64 a0_0, .int .i64 2, .int .i64 60] ?_; (with_reducible refine (spec_l1In.calls a0_0 2 60 true _ A8.out).mono ?_); rintro e w' ⟨rfl, ⟨nd, rfl⟩⟩; refine ⟨_, rfl, ?_⟩) | (go_at_call 101; (with_reducible refine (spec_l1In.calls a0_1 1 (wrap64 (a0_0 - 1)) false _ A10.out).mono ?_); rintro e w' ⟨rfl, ⟨nd, rfl⟩⟩))
  go_ret
  exact ⟨Z6, sqB1 HB GE634⟩
 replace c9 := Bool.eq_false_iff.mpr c9
 subst c9
 rw [if_neg sqF] at H
 obtain rfl := Option.some.inj H
 go_enter Tryz.func132, Tryz.ntmps132
 go_wp2_with (first | ((with_reducible refine gate_dst (N := 1) rfl ?_); refine sqBx w (sqB HB) (N := 1) (cs := #[.int .i64 a0_0, .int .i64 a0_1]) (t := 116) ?_; intro gb634 hg w18 BK634 GE634 HB hb; clear hb hg; obtain ⟨hcz19_0, hcz19_1, hfz19_0, hfz19_1⟩ := sqY2 BK634) | ((with_reducible refine gate_callee (f := 101) rfl ?_); refine sqC (some 19) Tryz.func101 #[.int .i64 a0_0, .int .i64 2, .int .i64 60] ?_; (with_reducible refine (spec_l1In.calls a0_0 2 60 false _ A8.out).mono ?_); rintro e w' ⟨rfl, ⟨nd, rfl⟩⟩; refine ⟨_, rfl, ?_⟩))
 go_ret
 exact ⟨Z6, sqB1 HB GE634⟩

/-! ### spec_l10Back: function 133 -/
def spec_l10Back.l0 : Nat → Int → Int → Int → Option (Int)
 | 0, _, _, _ => none
 | k + 1, x0, x1, x5 => if x5 < x1 then (if x1 = 0 then (none) else (if (Int.tmod (wrap64 (x5 * x0)) x1) = 1 then (some x5) else (spec_l10Back.l0 k x0 x1 (wrap64 (x5 + 1))))) else (some 0)
def spec_l10Back.f (k : Nat) (a0 : Int) (a1 : Int) : Option (Int) := spec_l10Back.l0 k a0 a1 1
abbrev spec_l10Back.M (k : Nat) : Prop := (∀ y0 y1 y2, LeO (spec_l10Back.l0 k y0 y1 y2) (spec_l10Back.l0 (k + 1) y0 y1 y2))
theorem spec_l10Back.mono_t : ∀ k, spec_l10Back.M k → spec_l10Back.M (k + 1) ∧ ∀ a0 a1, LeO (spec_l10Back.f k a0 a1) (spec_l10Back.f (k + 1) a0 a1) := by
  rintro k ih0
  refine ⟨?_, ?_⟩ <;> (try unfold spec_l10Back.M) <;> intros <;> (first | unfold spec_l10Back.l0 | unfold spec_l10Back.f) <;> repeat' (with_reducible first | exact ih0 _ _ _ | exact LeO.refl _ | exact LeO.none _ | refine LeO.ite ?_ ?_ | refine LeO.bind ?_ fun _ => ?_)
theorem spec_l10Back.mono_l : ∀ k, spec_l10Back.M k
 | 0 => fun _ _ _ r h => by simp [spec_l10Back.l0] at h
 | k + 1 => (spec_l10Back.mono_t k (spec_l10Back.mono_l k)).1
theorem spec_l10Back.mono a0 a1 k : LeO (spec_l10Back.f k a0 a1) (spec_l10Back.f (k + 1) a0 a1) := (spec_l10Back.mono_t k (spec_l10Back.mono_l k)).2 a0 a1
set_option maxHeartbeats 8000000 in
set_option maxRecDepth 100000 in
theorem spec_l10Back.calls (k : Nat) (a0 : Int) (a1 : Int) (r : Int) (w : World) (h : spec_l10Back.f k a0 a1 = some r) :
  Calls Tryz.prog 133 #[.int .i64 a0, .int .i64 a1] w fun e w' => e = .returned (.int .i64 r) ∧ Drawn0 w w' := by
 unfold spec_l10Back.f at h
 have H := h
 clear h
 have H' := Aside0.mk H
 clear H
 go_enter Tryz.func133, Tryz.ntmps133
 go_wp2
 go_loopg [5] k (fun kq v5 w' => ∃ (x5_1 : Int), v5 = .int .i64 x5_1 ∧ Aside0 (spec_l10Back.l0 kq a0 a1 x5_1 = some r) ∧ Aside0 (kq ≤ k) ∧ Drawn0 w w')
 case atStart => exact ⟨(1), Z2, H', ⟨Nat.le_refl _⟩, Z19⟩
 case round =>
  clear H'
  obtain ⟨x5_1, rfl, HA, HK1, ⟨m1, rfl⟩⟩ := hrel
  cases gk with
  | zero => exact absurd HA.out (by simp [spec_l10Back.l0])
  | succ k1 =>
   have H := HA.out
   clear HA
   simp only [spec_l10Back.l0] at H
   by_cases c3 : x5_1 < a1
   ·rw [if_pos c3] at H
    have c3b0 : decide (x5_1 < a1) = true := decide_eq_true c3
    clear c3
    by_cases c4 : a1 = 0
    ·rw [if_pos c4] at H
     exact absurd H (by simp)
    rw [if_neg c4] at H
    have c4b0 : (a1 == 0) = false := beq_eq_false_iff_ne.mpr c4
    have c4b1 : (a1 != 0) = true := bne_iff_ne.mpr c4
    by_cases c5 : (Int.tmod (wrap64 (x5_1 * a0)) a1) = 1
    ·rw [if_pos c5] at H
     have c5b0 : ((Int.tmod (wrap64 (x5_1 * a0)) a1) == 1) = true := beq_iff_eq.mpr c5
     have c5b1 : ((Int.tmod (wrap64 (x5_1 * a0)) a1) != 1) = false := bne_eq_false_iff_eq.mpr c5
     clear c5
     obtain rfl := Option.some.inj H
     go_wp2
     go_ret
     exact ⟨Z2, Z19⟩
    rw [if_neg c5] at H
    have c5b0 : ((Int.tmod (wrap64 (x5_1 * a0)) a1) == 1) = false := beq_eq_false_iff_ne.mpr c5
    have c5b1 : ((Int.tmod (wrap64 (x5_1 * a0)) a1) != 1) = true := bne_iff_ne.mpr c5
    have H' := Aside0.mk H
    clear H
    go_wp2
    go_roundg k1
    case measure => have := HK1.out; omega
    case rel => exact ⟨(wrap64 (x5_1 + 1)), Z2, H', ⟨Z3 HK1⟩, Z19⟩
   rw [if_neg c3] at H
   have c3b0 : decide (x5_1 < a1) = false := decide_eq_false c3
   clear c3
   obtain rfl := Option.some.inj H
   go_wp2
   go_ret
   exact ⟨Z2, Z19⟩

/-! ### spec_LeastOf: function 98 -/
def spec_LeastOf.f (k : Nat) (a0_0 : Int) (a0_1 : Int) : Option (Int × Int × Bool) := (spec_LinkOk.f k a0_0 a0_1).bind fun t640 => (if t640 = true then (if a0_0 < 2 then (some (a0_0, a0_1, true)) else ((spec_l10Back.f k a0_1 a0_0).bind fun t641 => (some (a0_0, mn a0_1 t641, true)))) else (some (0, 0, false)))
theorem spec_LeastOf.mono : ∀ a0 a1 k, LeO (spec_LeastOf.f k a0 a1) (spec_LeastOf.f (k + 1) a0 a1) := by
 intro a0 a1 k
 unfold spec_LeastOf.f
 repeat' (with_reducible first | exact spec_LinkOk.mono _ _ _ | exact spec_l10Back.mono _ _ _ | exact LeO.refl _ | exact LeO.none _ | refine LeO.ite ?_ ?_ | refine LeO.bind ?_ fun _ => ?_)
def spec_LeastOf.T5 : Bool × List (List Nat × List Nat) := (true, [([], []), ([0], [0]), ([], []), ([2], [2]), ([], []), ([4], [4]), ([], []), ([6], [6]), ([5, 7], [5, 7]), ([3, 8], [3, 8]), ([1, 9], [1, 9]), ([10, 8, 0, 1, 2, 3, 4, 5, 6, 7, 8, 9, 10], [10]), ([11, 0, 1, 2, 3, 4, 5, 6, 7, 8, 9, 10, 11], [])])
def spec_LeastOf.B5 : List Nat := [0, 1, 0, 4, 0, 16, 0, 64, 240, 508, 1023, 2047, 4095]
theorem spec_LeastOf.tab5 : rtab .any (opsOf Tryz.f98 5) = spec_LeastOf.T5 := by kernel_rfl
theorem spec_LeastOf.bits5 : waitsOk spec_LeastOf.T5.2 spec_LeastOf.B5 = true := by kernel_rfl
set_option maxHeartbeats 8000000 in
set_option maxRecDepth 100000 in
theorem spec_LeastOf.calls (k : Nat) (a0_0 : Int) (a0_1 : Int) (r1 : Int) (r2 : Int) (r3 : Bool) (w : World) (h : spec_LeastOf.f k a0_0 a0_1 = some (r1, r2, r3)) :
  Calls Tryz.prog 98 #[.agg #[.int .i64 a0_0, .int .i64 a0_1]] w fun e w' => e = .returned (.tuple #[.agg #[.int .i64 r1, .int .i64 r2], .bool r3]) ∧ Below w.heap.size w w' := by
 have hu116 := Tryz.underlying116
 have HB := Aside0.mk (Below.refl w.heap.size w)
 unfold spec_LeastOf.f at h
 have H := h
 clear h
 obtain ⟨t640, A2, H⟩ := sqD H
 by_cases c3 : t640 = true
 ·subst c3
  rw [if_pos rfl] at H
  by_cases c4 : a0_0 < 2
  ·rw [if_pos c4] at H
   have c4b0 : decide (a0_0 < 2) = true := decide_eq_true c4
   clear c4
   obtain ⟨rfl, rfl, rfl⟩ := sqO3 H
   go_enter Tryz.func98, Tryz.ntmps98
   go_wp2_with (first | ((with_reducible refine gate_dst (N := 1) rfl ?_); refine sqBx w (sqB HB) (N := 1) (cs := #[.int .i64 a0_0, .int .i64 a0_1]) (t := 116) ?_; intro gb638 hg w5 BK638 GE638 HB hb; clear hb hg) | ((with_reducible refine gate_dst (N := 2) rfl ?_); refine sqBx w (sqB1 HB GE638) (N := 2) (cs := #[.int .i64 0, .int .i64 0]) (t := 116) ?_; intro gb639 hg w6 BK639 GE639 HB hb; obtain ⟨NB638_639, NB639_638⟩ := sqM hg BK638; replace BK638 := sqT BK638 hb; clear hb hg; have hnb7 := NB638_639.out; have hnc7 := NB639_638.out; obtain ⟨hcz8_0, hcz8_1, hfz8_0, hfz8_1⟩ := sqY2 BK638) | ((with_reducible refine gate_callee (f := 132) rfl ?_); refine sqC (some 5) Tryz.func132 #[.agg #[.int .i64 a0_0, .int .i64 a0_1]] ?_; (with_reducible refine (spec_LinkOk.calls k a0_0 a0_1 true _ A2.out).mono ?_); rintro e w9 ⟨rfl, hb⟩; refine ⟨_, rfl, ?_⟩; replace BK638 := sqT BK638 hb; replace BK639 := sqT BK639 hb; replace HB := sqS (sqB2 HB GE638 GE639) hb; (try clear hb); obtain ⟨hcz10_0, hcz10_1, hfz10_0, hfz10_1⟩ := sqY2 BK638; obtain ⟨hcz11_0, hcz11_1, hfz11_0, hfz11_1⟩ := sqY2 BK639))
   refine bodyPost_ret (results_ct rfl _ _ gb639 116 #[.int .i64 a0_0, .int .i64 a0_1] (0, 0) _ rfl (Z5 BK639) Tryz.underlying116 rfl (by kernel_rfl)) rfl ?_
   exact ⟨Z6, sqB2 HB GE638 GE639⟩
  rw [if_neg c4] at H
  have c4b0 : decide (a0_0 < 2) = false := decide_eq_false c4
  clear c4
  obtain ⟨t641, A12, H⟩ := sqD H
  obtain ⟨ji13, hji13⟩ : ∃ j_ : Int, (mn a0_1 t641) = j_ := ⟨_, rfl⟩
  replace H : (some (a0_0, ji13, true)) = some (r1, r2, r3) := by first | (rw [hji13] at H; exact H) | (simp only [hji13] at H ⊢; exact H)
  (try rw [hji13] at A2)
  (try rw [hji13] at A12)
  have hji13_ : (if t641 < a0_1 then t641 else a0_1) = ji13 := hji13
  obtain ⟨rfl, rfl, rfl⟩ := sqO3 H
  go_enter Tryz.func98, Tryz.ntmps98
  try go_wp2_with (first | ((with_reducible refine gate_dst (N := 1) rfl ?_); refine sqBx w (sqB HB) (N := 1) (cs := #[.int .i64 a0_0, .int .i64 a0_1]) (t := 116) ?_; intro gb638 hg w14 BK638 GE638 HB hb; clear hb hg) | ((with_reducible refine gate_dst (N := 2) rfl ?_); refine sqBx w (sqB1 HB GE638) (N := 2) (cs := #[.int .i64 0, .int .i64 0]) (t := 116) ?_; intro gb639 hg w15 BK639 GE639 HB hb; obtain ⟨NB638_639, NB639_638⟩ := sqM hg BK638; replace BK638 := sqT BK638 hb; clear hb hg; have hnb16 := NB638_639.out; have hnc16 := NB639_638.out; obtain ⟨hcz17_0, hcz17_1, hfz17_0, hfz17_1⟩ := sqY2 BK638) | ((with_reducible refine gate_callee (f := 132) rfl ?_); refine sqC (some 5) Tryz.func132 #[.agg #[.int .i64 a0_0, .int .i64 a0_1]] ?_; (with_reducible refine (spec_LinkOk.calls k a0_0 a0_1 true _ A2.out).mono ?_); rintro e w18 ⟨rfl, hb⟩; refine ⟨_, rfl, ?_⟩; replace BK638 := sqT BK638 hb; replace BK639 := sqT BK639 hb; replace HB := sqS (sqB2 HB GE638 GE639) hb; (try clear hb); obtain ⟨hcz19_0, hcz19_1, hfz19_0, hfz19_1⟩ := sqY2 BK638))
  replace BK638 := Aside0.mk (blk_drew BK638.out)
  replace BK639 := Aside0.mk (blk_drew BK639.out)
  replace HB := Aside0.mk (below_drew1 HB.out)
  refine start_ (n := 13) (S := fun w' => w'.cell? ⟨gb638, 0, none⟩ = some (.int .i64 a0_0) ∧ w'.cell? ⟨gb638, 1, none⟩ = some (.int .i64 a0_1)) (ds := []) #[false, false, false, false, false, false, false, false, false, false, false, false, false] (by kernel_rfl) rfl rfl ⟨(blk_cell BK638.out 0).trans rfl, (blk_cell BK638.out 1).trans rfl⟩ (fun hHeld => ?_); refine with_tabW spec_LeastOf.tab5 spec_LeastOf.bits5 (fun HT_ HW_ => ?_)
  generalize w18.drew = w20 at BK638 BK639 HB hHeld ⊢
  refine sqP (i := 0) (N := some 12) (h := ?_)
  refine sqP (i := 2) (N := some 14) (h := ?_)
  refine sqP (i := 4) (N := some 16) (h := ?_)
  refine sqP (i := 6) (N := some 18) (h := ?_)
  refine sqQ (i := 1) (N := some 13) hHeld (h := ?_)
  refine sqQ (i := 3) (N := some 15) hHeld (h := ?_)
  refine sqQ (i := 5) (N := some 17) hHeld (h := ?_)
  refine sqQ (i := 7) (N := some 19) hHeld (h := ?_)
  refine one_ (i := 8) (N := some 20) #[true, true, true, true, true, true, true, true, true, false, false, false, false] rfl rfl (one_of HT_.out (by kernel_rfl)) (by decide) (fun K hK => ?_)
  refine goes_ Tryz.func133 (by kernel_rfl) rfl #[.int .i64 a0_1, .int .i64 a0_0] (by rfl) rfl rfl sqA ?_
  with_reducible refine (spec_l10Back.calls k a0_1 a0_0 t641 _ A12.out).mono ?_
  rintro e w' ⟨rfl, ⟨nd, rfl⟩⟩
  refine ⟨_, rfl, ?_⟩
  refine hK.out _ _ ⟨(blk_cell BK638.out 0).trans rfl, (blk_cell BK638.out 1).trans rfl⟩ (fun hHeld => ?_)
  clear hK K
  refine sqN (some 20) ?_
  refine sqP (i := 9) (N := some 21) (h := ?_)
  refine sqP (i := 10) (N := some 22) (h := ?_)
  refine one_ (i := 11) (N := none) #[true, true, true, true, true, true, true, true, true, true, true, true, false] rfl rfl (one_of HT_.out (by kernel_rfl)) (by decide) (fun K hK => ?_)
  have hs21 : w20.cell? ⟨gb639, 0, none⟩ = some (.int .i64 0) := (blk_cell BK639.out 0).trans rfl
  have hfs21 := blk_frozen BK639.out 0
  have hns21_0 := NB638_639.out
  have hms21_0 := NB639_638.out
  have hs22 : w20.cell? ⟨gb639, 1, none⟩ = some (.int .i64 0) := (blk_cell BK639.out 1).trans rfl
  have hfs22 := blk_frozen BK639.out 1
  refine skip_ (w1 := ?_) (by rfl) rfl ?_ ?_
  rotate_left
  ·go_simp
   rfl
  refine hK.out _ _ ⟨((cell_far (p := ⟨gb639, _, none⟩) NB638_639.out _).trans (((cell_far (p := ⟨gb639, _, none⟩) NB638_639.out _).trans (hHeld.1)))), ((cell_far (p := ⟨gb639, _, none⟩) NB638_639.out _).trans (((cell_far (p := ⟨gb639, _, none⟩) NB638_639.out _).trans (hHeld.2))))⟩ (fun hHeld => ?_)
  clear hK K
  refine sqP (i := 12) (N := some 3) (h := ?_)
  refine done_ (done_of HT_.out (by kernel_rfl)) ?_
  try go_wp2
  refine bodyPost_ret (results_ct rfl _ _ gb639 116 #[.int .i64 a0_0, .int .i64 ji13] (0, 0) _ rfl (Z5 BK639) Tryz.underlying116 rfl (by kernel_rfl)) rfl ?_
  exact ⟨by first | rfl | (simp [errP_none, errP_some] <;> rfl) | (simp only [← hji13]; first | rfl | (simp [errP_none, errP_some] <;> rfl)) | (simp [*, errP_none, errP_some] <;> rfl), sqB2 HB GE638 GE639⟩
 replace c3 := Bool.eq_false_iff.mpr c3
 subst c3
 rw [if_neg sqF] at H
 obtain ⟨rfl, rfl, rfl⟩ := sqO3 H
 go_enter Tryz.func98, Tryz.ntmps98
 go_wp2_with (first | ((with_reducible refine gate_dst (N := 1) rfl ?_); refine sqBx w (sqB HB) (N := 1) (cs := #[.int .i64 a0_0, .int .i64 a0_1]) (t := 116) ?_; intro gb638 hg w23 BK638 GE638 HB hb; clear hb hg) | ((with_reducible refine gate_dst (N := 2) rfl ?_); refine sqBx w (sqB1 HB GE638) (N := 2) (cs := #[.int .i64 0, .int .i64 0]) (t := 116) ?_; intro gb639 hg w24 BK639 GE639 HB hb; obtain ⟨NB638_639, NB639_638⟩ := sqM hg BK638; replace BK638 := sqT BK638 hb; clear hb hg; have hnb25 := NB638_639.out; have hnc25 := NB639_638.out; obtain ⟨hcz26_0, hcz26_1, hfz26_0, hfz26_1⟩ := sqY2 BK638) | ((with_reducible refine gate_callee (f := 132) rfl ?_); refine sqC (some 5) Tryz.func132 #[.agg #[.int .i64 a0_0, .int .i64 a0_1]] ?_; (with_reducible refine (spec_LinkOk.calls k a0_0 a0_1 false _ A2.out).mono ?_); rintro e w27 ⟨rfl, hb⟩; refine ⟨_, rfl, ?_⟩; replace BK638 := sqT BK638 hb; replace BK639 := sqT BK639 hb; replace HB := sqS (sqB2 HB GE638 GE639) hb; (try clear hb); obtain ⟨hcz28_0, hcz28_1, hfz28_0, hfz28_1⟩ := sqY2 BK639))
 refine bodyPost_ret (results_ct rfl _ _ gb639 116 #[.int .i64 0, .int .i64 0] (0, 0) _ rfl (Z27 BK639) Tryz.underlying116 rfl (by kernel_rfl)) rfl ?_
 exact ⟨Z6, sqB2 HB GE638 GE639⟩

/-! ### spec_TiedFor: function 102 -/
def spec_TiedFor.f (k : Nat) (a0_0 : Int) (a0_1 : Int) (a1 : Int) : Option (Int) := (spec_FractionOk.f k a0_0 a0_1).bind fun t643 => (if t643 = true then ((spec_l1In.f a1 1 12).bind fun t644 => (if t644 = true then ((spec_l1Common.f k a0_0 a1).bind fun t645 => (some (wrap64 (a1 * t645)))) else (some (-1)))) else (some (-1)))
theorem spec_TiedFor.mono : ∀ a0 a1 a2 k, LeO (spec_TiedFor.f k a0 a1 a2) (spec_TiedFor.f (k + 1) a0 a1 a2) := by
 intro a0 a1 a2 k
 unfold spec_TiedFor.f
 repeat' (with_reducible first | exact spec_FractionOk.mono _ _ _ | exact spec_l1Common.mono _ _ _ | exact LeO.refl _ | exact LeO.none _ | refine LeO.ite ?_ ?_ | refine LeO.bind ?_ fun _ => ?_)
set_option maxHeartbeats 8000000 in
set_option maxRecDepth 100000 in
theorem spec_TiedFor.calls (k : Nat) (a0_0 : Int) (a0_1 : Int) (a1 : Int) (r : Int) (w : World) (h : spec_TiedFor.f k a0_0 a0_1 a1 = some r) :
  Calls Tryz.prog 102 #[.agg #[.int .i64 a0_0, .int .i64 a0_1], .int .i64 a1] w fun e w' => e = .returned (.int .i64 r) ∧ Below w.heap.size w w' := by
 have hu31 := Tryz.underlying31
 have HB := Aside0.mk (Below.refl w.heap.size w)
 unfold spec_TiedFor.f at h
 have H := h
 clear h
 obtain ⟨t643, A3, H⟩ := sqD H
 by_cases c4 : t643 = true
 ·subst c4
  rw [if_pos rfl] at H
  obtain ⟨t644, A5, H⟩ := sqD H
  by_cases c6 : t644 = true
  ·subst c6
   rw [if_pos rfl] at H
   obtain ⟨t645, A7, H⟩ := sqD H
   obtain rfl := Option.some.inj H
   go_enter Tryz.func102, Tryz.ntmps102
   go_wp2_with (first | ((with_reducible refine gate_dst (N := 2) rfl ?_); refine sqBx w (sqB HB) (N := 2) (cs := #[.int .i64 a0_0, .int .i64 a0_1]) (t := 31) ?_; intro gb642 hg w8 BK642 GE642 HB hb; clear hb hg; obtain ⟨hcz9_0, hcz9_1, hfz9_0, hfz9_1⟩ := sqY2 BK642) | ((with_reducible refine gate_callee (f := 77) rfl ?_); refine sqC (some 6) Tryz.func77 #[.agg #[.int .i64 a0_0, .int .i64 a0_1]] ?_; (with_reducible refine (spec_FractionOk.calls k a0_0 a0_1 true _ A3.out).mono ?_); rintro e w10 ⟨rfl, hb⟩; refine ⟨_, rfl, ?_⟩; replace BK642 := sqT BK642 hb; replace HB := sqS (sqB1 HB GE642) hb; (try clear hb)) | (go_at_call 101; (with_reducible refine (spec_l1In.calls a1 1 12 true _ A5.out).mono ?_); rintro e w' ⟨rfl, ⟨nd, rfl⟩⟩; obtain ⟨hcz11_0, hcz11_1, hfz11_0, hfz11_1⟩ := sqY2 BK642) | ((with_reducible refine gate_callee (f := 121) rfl ?_); refine sqC (some 17) Tryz.func121 #[.int .i64 a0_0, .int .i64 a1] ?_; (with_reducible refine (spec_l1Common.calls k a0_0 a1 t645 _ A7.out).mono ?_); rintro e w12 ⟨rfl, hb⟩; refine ⟨_, rfl, ?_⟩; replace BK642 := sqT BK642 hb; replace HB := sqS (sqB1 HB GE642) hb; (try clear hb)))
   go_ret
   exact ⟨Z6, sqB1 HB GE642⟩
  replace c6 := Bool.eq_false_iff.mpr c6
  subst c6
  rw [if_neg sqF] at H
  obtain rfl := Option.some.inj H
  go_enter Tryz.func102, Tryz.ntmps102
  go_wp2_with (first | ((with_reducible refine gate_dst (N := 2) rfl ?_); refine sqBx w (sqB HB) (N := 2) (cs := #[.int .i64 a0_0, .int .i64 a0_1]) (t := 31) ?_; intro gb642 hg w13 BK642 GE642 HB hb; clear hb hg; obtain ⟨hcz14_0, hcz14_1, hfz14_0, hfz14_1⟩ := sqY2 BK642) | ((with_reducible refine gate_callee (f := 77) rfl ?_); refine sqC (some 6) Tryz.func77 #[.agg #[.int .i64 a0_0, .int .i64 a0_1]] ?_; (with_reducible refine (spec_FractionOk.calls k a0_0 a0_1 true _ A3.out).mono ?_); rintro e w15 ⟨rfl, hb⟩; refine ⟨_, rfl, ?_⟩; replace BK642 := sqT BK642 hb; replace HB := sqS (sqB1 HB GE642) hb; (try clear hb)) | (go_at_call 101; (with_reducible refine (spec_l1In.calls a1 1 12 false _ A5.out).mono ?_); rintro e w' ⟨rfl, ⟨nd, rfl⟩⟩))
  go_ret
  exact ⟨Z6, sqB1 HB GE642⟩
 replace c4 := Bool.eq_false_iff.mpr c4
 subst c4
 rw [if_neg sqF] at H
 obtain rfl := Option.some.inj H
 go_enter Tryz.func102, Tryz.ntmps102
 go_wp2_with (first | ((with_reducible refine gate_dst (N := 2) rfl ?_); refine sqBx w (sqB HB) (N := 2) (cs := #[.int .i64 a0_0, .int .i64 a0_1]) (t := 31) ?_; intro gb642 hg w16 BK642 GE642 HB hb; clear hb hg; obtain ⟨hcz17_0, hcz17_1, hfz17_0, hfz17_1⟩ := sqY2 BK642) | ((with_reducible refine gate_callee (f := 77) rfl ?_); refine sqC (some 6) Tryz.func77 #[.agg #[.int .i64 a0_0, .int .i64 a0_1]] ?_; (with_reducible refine (spec_FractionOk.calls k a0_0 a0_1 false _ A3.out).mono ?_); rintro e w18 ⟨rfl, hb⟩; refine ⟨_, rfl, ?_⟩; replace BK642 := sqT BK642 hb; replace HB := sqS (sqB1 HB GE642) hb; (try clear hb)))
 go_ret
 exact ⟨Z6, sqB1 HB GE642⟩

end Go.Proofs.YtofmlbgfcohhoaaGreatDoor.PFnExactDeskLine
