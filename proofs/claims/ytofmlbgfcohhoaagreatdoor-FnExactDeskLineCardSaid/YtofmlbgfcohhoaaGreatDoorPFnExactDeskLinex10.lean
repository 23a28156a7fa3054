/- Lean functions of the Go functions that the law FnExactDeskLine reaches, each with its contract: made by a program of this session. -/
import Derived.Test.YtofmlbgfcohhoaaGreatDoorPFnExactDeskLinex4
namespace Go.Proofs.YtofmlbgfcohhoaaGreatDoor.PFnExactDeskLine
open Go.RowKit Go.Proofs.YtofmlbgfcohhoaaGreatDoorW.PrintWords Go.Proofs.YtofmlbgfcohhoaaGreatDoorW.PrintLast Go.Proofs.YtofmlbgfcohhoaaGreatDoorW.PrintMore Go.Proofs.YtofmlbgfcohhoaaGreatDoor.Lib
attribute [local go_sem] max2_int min2_int max_two min_two max_three min_three max_four min_four   -- for this text's walks alone
set_option linter.unusedVariables false
set_option linter.unusedSimpArgs false

/-! ### impl_least: function 149 -/
def impl_least.l0 : Nat → Int → Int → Int → Option (Int × Int)
 | 0, _, _, _ => none
 | k + 1, x3, x331000, x331001 => if x3 < x331001 then (if x331000 = 0 then (none) else (if (Int.tmod (wrap64 (x3 * x331001)) x331000) = 1 then (impl_least.l0 k (wrap64 (x3 + 1)) x331000 x3) else (impl_least.l0 k (wrap64 (x3 + 1)) x331000 x331001))) else (some (x331000, x331001))
def impl_least.f (k : Nat) (a0_0 : Int) (a0_1 : Int) : Option (Int × Int) := impl_least.l0 k 1 a0_0 a0_1
abbrev impl_least.M (k : Nat) : Prop := (∀ y0 y1 y2, LeO (impl_least.l0 k y0 y1 y2) (impl_least.l0 (k + 1) y0 y1 y2))
theorem impl_least.mono_t : ∀ k, impl_least.M k → impl_least.M (k + 1) ∧ ∀ a0 a1, LeO (impl_least.f k a0 a1) (impl_least.f (k + 1) a0 a1) := by
  rintro k ih0
  refine ⟨?_, ?_⟩ <;> (try unfold impl_least.M) <;> intros <;> (first | unfold impl_least.l0 | unfold impl_least.f) <;> repeat' (with_reducible first | exact ih0 _ _ _ | exact LeO.refl _ | exact LeO.none _ | refine LeO.ite ?_ ?_ | refine LeO.bind ?_ fun _ => ?_)
theorem impl_least.mono_l : ∀ k, impl_least.M k
 | 0 => fun _ _ _ r h => by simp [impl_least.l0] at h
 | k + 1 => (impl_least.mono_t k (impl_least.mono_l k)).1
theorem impl_least.mono a0 a1 k : LeO (impl_least.f k a0 a1) (impl_least.f (k + 1) a0 a1) := (impl_least.mono_t k (impl_least.mono_l k)).2 a0 a1
set_option maxHeartbeats 8000000 in
set_option maxRecDepth 100000 in
theorem impl_least.calls (k : Nat) (a0_0 : Int) (a0_1 : Int) (r1 : Int) (r2 : Int) (w : World) (h : impl_least.f k a0_0 a0_1 = some (r1, r2)) :
  Calls Tryz.prog 149 #[.agg #[.int .i64 a0_0, .int .i64 a0_1]] w fun e w' => e = .returned (.agg #[.int .i64 r1, .int .i64 r2]) ∧ Below w.heap.size w w' := by
 have hu116 := Tryz.underlying116
 have HB := Aside0.mk (Below.refl w.heap.size w)
 unfold impl_least.f at h
 have H := h
 clear h
 have H' := Aside0.mk H
 clear H
 go_enter Tryz.func149, Tryz.ntmps149
 go_wp2_with (first | ((with_reducible refine gate_dst (N := 1) rfl ?_); refine sqBx w (sqB HB) (N := 1) (cs := #[.int .i64 a0_0, .int .i64 a0_1]) (t := 116) ?_; intro gb330 hg w2 BK330 GE330 HB hb; clear hb hg) | ((with_reducible refine gate_dst (N := 2) rfl ?_); refine sqBx w (sqB1 HB GE330) (N := 2) (cs := #[.int .i64 0, .int .i64 0]) (t := 116) ?_; intro gb331 hg w3 BK331 GE331 HB hb; obtain ⟨NB330_331, NB331_330⟩ := sqM hg BK330; replace BK330 := sqT BK330 hb; clear hb hg))
 go_loopg [3] k (fun kq v3 w' => ∃ (x3_1 : Int) (x331001_1 : Int), v3 = .int .i64 x3_1 ∧ Aside0 (impl_least.l0 kq x3_1 a0_0 x331001_1 = some (r1, r2)) ∧ Aside0 (kq ≤ k) ∧ Aside0 (w'.heap[gb330]? = some (.cells #[.int .i64 a0_0, .int .i64 x331001_1] 116 (0, 0))) ∧ Aside0 (w'.heap[gb331]? = some (.cells #[.int .i64 0, .int .i64 0] 116 (0, 0))) ∧ Aside0 (Below w.heap.size w w'))
 case atStart => exact ⟨(1), (a0_1), Z2, H', ⟨Nat.le_refl _⟩, ⟨sqK BK330⟩, ⟨sqK BK331⟩, ⟨sqB2 HB GE330 GE331⟩⟩
 case round =>
  clear H'
  obtain ⟨x3_1, x331001_1, rfl, HA, HK1, BK330, BK331, HB⟩ := hrel
  cases gk with
  | zero => exact absurd HA.out (by simp [impl_least.l0])
  | succ k1 =>
   have H := HA.out
   clear HA
   simp only [impl_least.l0] at H
   by_cases c4 : x3_1 < x331001_1
   ·rw [if_pos c4] at H
    have c4b0 : decide (x3_1 < x331001_1) = true := decide_eq_true c4
    clear c4
    by_cases c5 : a0_0 = 0
    ·rw [if_pos c5] at H
     exact absurd H (by simp)
    rw [if_neg c5] at H
    have c5b0 : (a0_0 == 0) = false := beq_eq_false_iff_ne.mpr c5
    have c5b1 : (a0_0 != 0) = true := bne_iff_ne.mpr c5
    by_cases c6 : (Int.tmod (wrap64 (x3_1 * x331001_1)) a0_0) = 1
    ·rw [if_pos c6] at H
     have c6b0 : ((Int.tmod (wrap64 (x3_1 * x331001_1)) a0_0) == 1) = true := beq_iff_eq.mpr c6
     have c6b1 : ((Int.tmod (wrap64 (x3_1 * x331001_1)) a0_0) != 1) = false := bne_eq_false_iff_eq.mpr c6
     clear c6
     have H' := Aside0.mk H
     clear H
     have hnb7 := NB330_331.out
     have hnc7 := NB331_330.out
     obtain ⟨hcz8_0, hcz8_1, hfz8_0, hfz8_1⟩ := sqY2 BK330
     go_wp2
     go_roundg k1
     case measure => have := HK1.out; omega
     case rel => exact ⟨(wrap64 (x3_1 + 1)), (x3_1), Z2, H', ⟨Z3 HK1⟩, ⟨by refine sqPut (cs := #[.int .i64 a0_0, .int .i64 x331001_1]) ?_ 1; exact sqK BK330⟩, ⟨Z4 NB331_330 BK331⟩, ⟨sqB2 HB GE330 GE331⟩⟩
    rw [if_neg c6] at H
    have c6b0 : ((Int.tmod (wrap64 (x3_1 * x331001_1)) a0_0) == 1) = false := beq_eq_false_iff_ne.mpr c6
    have c6b1 : ((Int.tmod (wrap64 (x3_1 * x331001_1)) a0_0) != 1) = true := bne_iff_ne.mpr c6
    have H' := Aside0.mk H
    clear H
    have hnb9 := NB330_331.out
    have hnc9 := NB331_330.out
    obtain ⟨hcz10_0, hcz10_1, hfz10_0, hfz10_1⟩ := sqY2 BK330
    go_wp2
    go_roundg k1
    case measure => have := HK1.out; omega
    case rel => exact ⟨(wrap64 (x3_1 + 1)), (x331001_1), Z2, H', ⟨Z3 HK1⟩, ⟨sqK BK330⟩, ⟨sqK BK331⟩, ⟨sqB2 HB GE330 GE331⟩⟩
   rw [if_neg c4] at H
   have c4b0 : decide (x3_1 < x331001_1) = false := decide_eq_false c4
   clear c4
   obtain ⟨rfl, rfl⟩ := sqO2 H
   have hnb11 := NB330_331.out
   have hnc11 := NB331_330.out
   obtain ⟨hcz12_0, hcz12_1, hfz12_0, hfz12_1⟩ := sqY2 BK330
   obtain ⟨hcz13_0, hcz13_1, hfz13_0, hfz13_1⟩ := sqY2 BK331
   go_wp2
   refine bodyPost_ret (results_cell_row rfl _ _ gb331 116 #[.int .i64 a0_0, .int .i64 x331001_1] (0, 0) _ rfl (Z5 BK331) Tryz.underlying116 rfl (by kernel_rfl)) rfl ?_
   exact ⟨Z6, sqB2 HB GE330 GE331⟩

-- given: function 150 (strings_CutPrefix)

/-! ### impl_TiedFor: function 152 -/
def impl_TiedFor.f (k : Nat) (a0_0 : Int) (a0_1 : Int) (a1 : Int) : Option (Int) := (impl_isFraction.f k a0_0 a0_1).bind fun t333 => (if t333 = true then (if a1 < 1 then (some (-1)) else (if a1 > 12 then (some (-1)) else ((impl_gcd.f k a1 a0_0).bind fun t334 => (some (wrap64 (a1 * t334)))))) else (some (-1)))
theorem impl_TiedFor.mono : ∀ a0 a1 a2 k, LeO (impl_TiedFor.f k a0 a1 a2) (impl_TiedFor.f (k + 1) a0 a1 a2) := by
 intro a0 a1 a2 k
 unfold impl_TiedFor.f
 repeat' (with_reducible first | exact impl_gcd.mono _ _ _ | exact impl_isFraction.mono _ _ _ | exact LeO.refl _ | exact LeO.none _ | refine LeO.ite ?_ ?_ | refine LeO.bind ?_ fun _ => ?_)
set_option maxHeartbeats 8000000 in
set_option maxRecDepth 100000 in
theorem impl_TiedFor.calls (k : Nat) (a0_0 : Int) (a0_1 : Int) (a1 : Int) (r : Int) (w : World) (h : impl_TiedFor.f k a0_0 a0_1 a1 = some r) :
  Calls Tryz.prog 152 #[.agg #[.int .i64 a0_0, .int .i64 a0_1], .int .i64 a1] w fun e w' => e = .returned (.int .i64 r) ∧ Below w.heap.size w w' := by
 have hu31 := Tryz.underlying31
 have HB := Aside0.mk (Below.refl w.heap.size w)
 unfold impl_TiedFor.f at h
 have H := h
 clear h
 obtain ⟨t333, A3, H⟩ := sqD H
 by_cases c4 : t333 = true
 ·subst c4
  rw [if_pos rfl] at H
  by_cases c5 : a1 < 1
  ·rw [if_pos c5] at H
   have c5b0 : decide (a1 < 1) = true := decide_eq_true c5
   clear c5
   obtain rfl := Option.some.inj H
   go_enter Tryz.func152, Tryz.ntmps152
   go_wp2_with (first | ((with_reducible refine gate_dst (N := 2) rfl ?_); refine sqBx w (sqB HB) (N := 2) (cs := #[.int .i64 a0_0, .int .i64 a0_1]) (t := 31) ?_; intro gb332 hg w6 BK332 GE332 HB hb; clear hb hg; obtain ⟨hcz7_0, hcz7_1, hfz7_0, hfz7_1⟩ := sqY2 BK332) | ((with_reducible refine gate_callee (f := 70) rfl ?_); refine sqC (some 6) Tryz.func70 #[.agg #[.int .i64 a0_0, .int .i64 a0_1]] ?_; (with_reducible refine (impl_isFraction.calls k a0_0 a0_1 true _ A3.out).mono ?_); rintro e w8 ⟨rfl, hb⟩; refine ⟨_, rfl, ?_⟩; replace BK332 := sqT BK332 hb; replace HB := sqS (sqB1 HB GE332) hb; (try clear hb)))
   go_ret
   exact ⟨Z6, sqB1 HB GE332⟩
  rw [if_neg c5] at H
  have c5b0 : decide (a1 < 1) = false := decide_eq_false c5
  clear c5
  by_cases c9 : a1 > 12
  ·rw [if_pos c9] at H
   have c9b0 : decide (12 < a1) = true := decide_eq_true c9
   clear c9
   obtain rfl := Option.some.inj H
   go_enter Tryz.func152, Tryz.ntmps152
   go_wp2_with (first | ((with_reducible refine gate_dst (N := 2) rfl ?_); refine sqBx w (sqB HB) (N := 2) (cs := #[.int .i64 a0_0, .int .i64 a0_1]) (t := 31) ?_; intro gb332 hg w10 BK332 GE332 HB hb; clear hb hg; obtain ⟨hcz11_0, hcz11_1, hfz11_0, hfz11_1⟩ := sqY2 BK332) | ((with_reducible refine gate_callee (f := 70) rfl ?_); refine sqC (some 6) Tryz.func70 #[.agg #[.int .i64 a0_0, .int .i64 a0_1]] ?_; (with_reducible refine (impl_isFraction.calls k a0_0 a0_1 true _ A3.out).mono ?_); rintro e w12 ⟨rfl, hb⟩; refine ⟨_, rfl, ?_⟩; replace BK332 := sqT BK332 hb; replace HB := sqS (sqB1 HB GE332) hb; (try clear hb)))
   go_ret
   exact ⟨Z6, sqB1 HB GE332⟩
  rw [if_neg c9] at H
  have c9b0 : decide (12 < a1) = false := decide_eq_false c9
  clear c9
  obtain ⟨t334, A13, H⟩ := sqD H
  obtain rfl := Option.some.inj H
  go_enter Tryz.func152, Tryz.ntmps152
  go_wp2_with (first | ((with_reducible refine gate_dst (N := 2) rfl ?_); refine sqBx w (sqB HB) (N := 2) (cs := #[.int .i64 a0_0, .int .i64 a0_1]) (t := 31) ?_; intro gb332 hg w14 BK332 GE332 HB hb; clear hb hg; obtain ⟨hcz15_0, hcz15_1, hfz15_0, hfz15_1⟩ := sqY2 BK332) | ((with_reducible refine gate_callee (f := 70) rfl ?_); refine sqC (some 6) Tryz.func70 #[.agg #[.int .i64 a0_0, .int .i64 a0_1]] ?_; (with_reducible refine (impl_isFraction.calls k a0_0 a0_1 true _ A3.out).mono ?_); rintro e w16 ⟨rfl, hb⟩; refine ⟨_, rfl, ?_⟩; replace BK332 := sqT BK332 hb; replace HB := sqS (sqB1 HB GE332) hb; (try clear hb); obtain ⟨hcz17_0, hcz17_1, hfz17_0, hfz17_1⟩ := sqY2 BK332) | ((with_reducible refine gate_callee (f := 117) rfl ?_); refine sqC (some 20) Tryz.func117 #[.int .i64 a1, .int .i64 a0_0] ?_; (with_reducible refine (impl_gcd.calls k a1 a0_0 t334 _ A13.out).mono ?_); rintro e w18 ⟨rfl, hb⟩; refine ⟨_, rfl, ?_⟩; replace BK332 := sqT BK332 hb; replace HB := sqS (sqB1 HB GE332) hb; (try clear hb)))
  go_ret
  exact ⟨Z6, sqB1 HB GE332⟩
 replace c4 := Bool.eq_false_iff.mpr c4
 subst c4
 rw [if_neg sqF] at H
 obtain rfl := Option.some.inj H
 go_enter Tryz.func152, Tryz.ntmps152
 go_wp2_with (first | ((with_reducible refine gate_dst (N := 2) rfl ?_); refine sqBx w (sqB HB) (N := 2) (cs := #[.int .i64 a0_0, .int .i64 a0_1]) (t := 31) ?_; intro gb332 hg w19 BK332 GE332 HB hb; clear hb hg; obtain ⟨hcz20_0, hcz20_1, hfz20_0, hfz20_1⟩ := sqY2 BK332) | ((with_reducible refine gate_callee (f := 70) rfl ?_); refine sqC (some 6) Tryz.func70 #[.agg #[.int .i64 a0_0, .int .i64 a0_1]] ?_; (with_reducible refine (impl_isFraction.calls k a0_0 a0_1 false _ A3.out).mono ?_); rintro e w21 ⟨rfl, hb⟩; refine ⟨_, rfl, ?_⟩; replace BK332 := sqT BK332 hb; replace HB := sqS (sqB1 HB GE332) hb; (try clear hb)))
 go_ret
 exact ⟨Z6, sqB1 HB GE332⟩

end Go.Proofs.YtofmlbgfcohhoaaGreatDoor.PFnExactDeskLine
