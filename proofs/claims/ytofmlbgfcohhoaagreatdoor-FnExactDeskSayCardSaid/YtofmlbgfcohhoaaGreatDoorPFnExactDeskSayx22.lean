import Derived.Test.YtofmlbgfcohhoaaGreatDoorPFnExactDeskSayx16
set_option maxHeartbeats 8000000
set_option maxRecDepth 100000
namespace Go.Proofs.YtofmlbgfcohhoaaGreatDoor.PFnExactDeskSay
open Go.RowKit Go.Proofs.YtofmlbgfcohhoaaGreatDoorW.PrintWords Go.Proofs.YtofmlbgfcohhoaaGreatDoorW.PrintLast Go.Proofs.YtofmlbgfcohhoaaGreatDoorW.PrintMore Go.Proofs.YtofmlbgfcohhoaaGreatDoor.Lib Go.Proofs.Tryz
attribute [local go_sem] max2_int min2_int max_two min_two max_three min_three max_four min_four   -- for this text's walks alone
set_option linter.unusedVariables false
set_option linter.unusedSimpArgs false

/-! ### impl_least: function 149 -/
def impl_least.l0 : Nat → Int → Int → Int → Option (Int × Int)
 | 0, _, _, _ => none
 | k + 1, x3, x0, x1 => if x3 < x1 then (if x0 = 0 then (none) else (if (Int.tmod (wrap64 (x3 * x1)) x0) = 1 then (impl_least.l0 k (wrap64 (x3 + 1)) x0 x3) else (impl_least.l0 k (wrap64 (x3 + 1)) x0 x1))) else (some (x0, x1))
def impl_least.f (k : Nat) (a0_0 : Int) (a0_1 : Int) : Option (Int × Int) := impl_least.l0 k 1 a0_0 a0_1
abbrev impl_least.M (k : Nat) : Prop := (∀ y0 y1 y2, LeO (impl_least.l0 k y0 y1 y2) (impl_least.l0 (k + 1) y0 y1 y2))
theorem impl_least.mono_t : ∀ k, impl_least.M k → impl_least.M (k + 1) ∧ ∀ a0 a1, LeO (impl_least.f k a0 a1) (impl_least.f (k + 1) a0 a1) := by
  rintro k ih0
  refine ⟨?_, ?_⟩ <;> (try unfold impl_least.M) <;> intros <;> (first | unfold impl_least.l0 | unfold impl_least.f) <;> repeat' (with_reducible first | exact ih0 _ _ _ | exact LeO.refl _ | exact LeO.none _ | refine LeO.ite ?_ ?_ | refine LeO.bind ?_ fun _ => ?_)
theorem impl_least.mono_l : ∀ k, impl_least.M k
 | 0 => fun _ _ _ r h => by simp [impl_least.l0] at h
 | k + 1 => (impl_least.mono_t k (impl_least.mono_l k)).1
theorem impl_least.mono a0 a1 k : LeO (impl_least.f k a0 a1) (impl_least.f (k + 1) a0 a1) := (impl_least.mono_t k (impl_least.mono_l k)).2 a0 a1
theorem impl_least.calls (k : Nat) (a0_0 : Int) (a0_1 : Int) (r1 : Int) (r2 : Int) (w : World) (H : impl_least.f k a0_0 a0_1 = some (r1, r2)) :
  Calls prog 149 #[.agg #[.int .i64 a0_0, .int .i64 a0_1]] w fun e w' => e = .returned (.agg #[.int .i64 r1, .int .i64 r2]) ∧ Below w.heap.size w w' := by
 have hu116 := underlying116
 have HB := sqh w
 unfold impl_least.f at H
 have H' := sqa H
 clear H
 go_enter func149, ntmps149
 go_wp2_with (first | ((with_reducible refine sqd 1 rfl ?_); refine sqBx w (sqB HB) (cs := #[.int .i64 a0_0, .int .i64 a0_1]) (t := 116) ?_; intro g0 hg w2 B0 E0 HB hb; clear hb hg) | ((with_reducible refine sqd 2 rfl ?_); refine sqBx w (sqB1 HB E0) (cs := #[.int .i64 0, .int .i64 0]) (t := 116) ?_; intro g1 hg w3 B2 E1 HB hb; obtain ⟨N0, N1⟩ := sqM hg B0; replace B0 := sqT B0 hb; clear hb hg))
 go_loopg [3] k (fun kq v3 w' => ∃ (x3_1 : Int) (x0 : Int), v3 = .int .i64 x3_1 ∧ Aside0 (impl_least.l0 kq x3_1 a0_0 x0 = some (r1, r2)) ∧ Aside0 (kq ≤ k) ∧ Aside0 (w'.heap[g0]? = some (.cells #[.int .i64 a0_0, .int .i64 x0] 116 (0, 0))) ∧ Aside0 (w'.heap[g1]? = some (.cells #[.int .i64 0, .int .i64 0] 116 (0, 0))) ∧ Aside0 (Below w.heap.size w w'))
 case atStart => exact ⟨(1), (a0_1), Z4, H', ⟨Nat.le_refl _⟩, ⟨sqK B0⟩, ⟨sqK B2⟩, ⟨sqB2 HB E0 E1⟩⟩
 case round =>
  clear H'
  obtain ⟨x3_1, x0, rfl, HA, HK1, B0, B2, HB⟩ := hrel
  cases gk with
  | zero => exact absurd HA.out (by simp [impl_least.l0])
  | succ k1 =>
   have H := HA.out
   clear HA
   simp only [impl_least.l0] at H
   by_cases c4 : x3_1 < x0
   ·rw [if_pos c4] at H
    have c4b0 : decide (x3_1 < x0) = true := decide_eq_true c4
    clear c4
    by_cases c5 : a0_0 = 0
    ·rw [if_pos c5] at H
     exact absurd H (by simp)
    rw [if_neg c5] at H
    have c5b0 : (a0_0 == 0) = false := sqe0 c5
    have c5b1 : (a0_0 != 0) = true := sqn1 c5
    by_cases c6 : (Int.tmod (wrap64 (x3_1 * x0)) a0_0) = 1
    ·rw [if_pos c6] at H
     have c6b0 : ((Int.tmod (wrap64 (x3_1 * x0)) a0_0) == 1) = true := sqe1 c6
     have c6b1 : ((Int.tmod (wrap64 (x3_1 * x0)) a0_0) != 1) = false := sqn0 c6
     clear c6
     have H' := sqa H
     clear H
     have := N0.1
     have := N1.1
     obtain ⟨_, _, _, _⟩ := sqY2 B0
     go_wp2
     go_roundg k1
     case measure => have := HK1.out; omega
     case rel => exact ⟨(wrap64 (x3_1 + 1)), (x3_1), Z4, H', ⟨Z17 HK1⟩, ⟨by refine sqPut (cs := #[.int .i64 a0_0, .int .i64 x0]) ?_ 1; exact sqK B0⟩, ⟨Z18 N1 B2⟩, ⟨sqB2 HB E0 E1⟩⟩
    rw [if_neg c6] at H
    have c6b0 : ((Int.tmod (wrap64 (x3_1 * x0)) a0_0) == 1) = false := sqe0 c6
    have c6b1 : ((Int.tmod (wrap64 (x3_1 * x0)) a0_0) != 1) = true := sqn1 c6
    have H' := sqa H
    clear H
    have := N0.1
    have := N1.1
    obtain ⟨_, _, _, _⟩ := sqY2 B0
    go_wp2
    go_roundg k1
    case measure => have := HK1.out; omega
    case rel => exact ⟨(wrap64 (x3_1 + 1)), (x0), Z4, H', ⟨Z17 HK1⟩, ⟨sqK B0⟩, ⟨sqK B2⟩, ⟨sqB2 HB E0 E1⟩⟩
   rw [if_neg c4] at H
   have c4b0 : decide (x3_1 < x0) = false := decide_eq_false c4
   clear c4
   obtain ⟨rfl, rfl⟩ := sqO2 H
   have := N0.1
   have := N1.1
   obtain ⟨_, _, _, _⟩ := sqY2 B0
   obtain ⟨_, _, _, _⟩ := sqY2 B2
   go_wp2
   refine bodyPost_ret (results_cell_row rfl _ _ g1 116 #[.int .i64 a0_0, .int .i64 x0] (0, 0) _ rfl (Z27 B2) underlying116 rfl (by kernel_rfl)) rfl ?_
   exact ⟨Z16, sqB2 HB E0 E1⟩

-- given: function 150 (strings_CutPrefix)

/-! ### impl_TiedFor: function 152 -/
def impl_TiedFor.f (k : Nat) (a0_0 : Int) (a0_1 : Int) (a1 : Int) : Option (Int) := (impl_isFraction.f k a0_0 a0_1).bind fun t0 => (if t0 = true then (if a1 < 1 then (some (-1)) else (if a1 > 12 then (some (-1)) else ((impl_gcd.f k a1 a0_0).bind fun t1 => (some (wrap64 (a1 * t1)))))) else (some (-1)))
theorem impl_TiedFor.mono : ∀ a0 a1 a2 k, LeO (impl_TiedFor.f k a0 a1 a2) (impl_TiedFor.f (k + 1) a0 a1 a2) := by
 intro a0 a1 a2 k
 unfold impl_TiedFor.f
 repeat' (with_reducible first | exact impl_gcd.mono _ _ _ | exact impl_isFraction.mono _ _ _ | exact LeO.refl _ | exact LeO.none _ | refine LeO.ite ?_ ?_ | refine LeO.bind ?_ fun _ => ?_)
theorem impl_TiedFor.calls (k : Nat) (a0_0 : Int) (a0_1 : Int) (a1 : Int) (r : Int) (w : World) (H : impl_TiedFor.f k a0_0 a0_1 a1 = some r) :
  Calls prog 152 #[.agg #[.int .i64 a0_0, .int .i64 a0_1], .int .i64 a1] w fun e w' => e = .returned (.int .i64 r) ∧ Below w.heap.size w w' := by
 have hu31 := underlying31
 have HB := sqh w
 unfold impl_TiedFor.f at H
 obtain ⟨t0, A3, H⟩ := sqD H
 by_cases c4 : t0 = true
 ·subst c4
  rw [if_pos rfl] at H
  by_cases c5 : a1 < 1
  ·rw [if_pos c5] at H
   have c5b0 : decide (a1 < 1) = true := decide_eq_true c5
   clear c5
   obtain rfl := sqo H
   go_enter func152, ntmps152
   go_wp2_with (first | ((with_reducible refine sqd 2 rfl ?_); refine sqBx w (sqB HB) (cs := #[.int .i64 a0_0, .int .i64 a0_1]) (t := 31) ?_; intro g0 hg w6 B0 E0 HB hb; clear hb hg; obtain ⟨_, _, _, _⟩ := sqY2 B0) | ((with_reducible refine sqc 70 rfl ?_); refine sqC (some 6) func70 #[.agg #[.int .i64 a0_0, .int .i64 a0_1]] ?_; (with_reducible refine (impl_isFraction.calls k a0_0 a0_1 true _ A3.1).mono ?_); refine sqV fun w8 hb => ?_; replace B0 := sqT B0 hb; replace HB := sqS (sqB1 HB E0) hb; (try clear hb)))
   go_ret
   exact ⟨Z16, sqB1 HB E0⟩
  rw [if_neg c5] at H
  have c5b0 : decide (a1 < 1) = false := decide_eq_false c5
  clear c5
  by_cases c9 : a1 > 12
  ·rw [if_pos c9] at H
   have c9b0 : decide (12 < a1) = true := decide_eq_true c9
   clear c9
   obtain rfl := sqo H
   go_enter func152, ntmps152
   go_wp2_with (first | ((with_reducible refine sqd 2 rfl ?_); refine sqBx w (sqB HB) (cs := #[.int .i64 a0_0, .int .i64 a0_1]) (t := 31) ?_; intro g0 hg w10 B0 E0 HB hb; clear hb hg; obtain ⟨_, _, _, _⟩ := sqY2 B0) | ((with_reducible refine sqc 70 rfl ?_); refine sqC (some 6) func70 #[.agg #[.int .i64 a0_0, .int .i64 a0_1]] ?_; (with_reducible refine (impl_isFraction.calls k a0_0 a0_1 true _ A3.1).mono ?_); refine sqV fun w12 hb => ?_; replace B0 := sqT B0 hb; replace HB := sqS (sqB1 HB E0) hb; (try clear hb)))
   go_ret
   exact ⟨Z16, sqB1 HB E0⟩
  rw [if_neg c9] at H
  have c9b0 : decide (12 < a1) = false := decide_eq_false c9
  clear c9
  obtain ⟨t1, A13, H⟩ := sqD H
  obtain rfl := sqo H
  go_enter func152, ntmps152
  go_wp2_with (first | ((with_reducible refine sqd 2 rfl ?_); refine sqBx w (sqB HB) (cs := #[.int .i64 a0_0, .int .i64 a0_1]) (t := 31) ?_; intro g0 hg w14 B0 E0 HB hb; clear hb hg; obtain ⟨_, _, _, _⟩ := sqY2 B0) | ((with_reducible refine sqc 70 rfl ?_); refine sqC (some 6) func70 #[.agg #[.int .i64 a0_0, .int .i64 a0_1]] ?_; (with_reducible refine (impl_isFraction.calls k a0_0 a0_1 true _ A3.1).mono ?_); refine sqV fun w16 hb => ?_; replace B0 := sqT B0 hb; replace HB := sqS (sqB1 HB E0) hb; (try clear hb); obtain ⟨_, _, _, _⟩ := sqY2 B0) | ((with_reducible refine sqc 117 rfl ?_); refine sqC (some 20) func117 #[.int .i64 a1, .int .i64 a0_0] ?_; (with_reducible refine (impl_gcd.calls k a1 a0_0 t1 _ A13.1).mono ?_); refine sqV fun w18 hb => ?_; replace B0 := sqT B0 hb; replace HB := sqS (sqB1 HB E0) hb; (try clear hb)))
  go_ret
  exact ⟨Z16, sqB1 HB E0⟩
 obtain rfl := sqb c4
 rw [if_neg sqF] at H
 obtain rfl := sqo H
 go_enter func152, ntmps152
 go_wp2_with (first | ((with_reducible refine sqd 2 rfl ?_); refine sqBx w (sqB HB) (cs := #[.int .i64 a0_0, .int .i64 a0_1]) (t := 31) ?_; intro g0 hg w19 B0 E0 HB hb; clear hb hg; obtain ⟨_, _, _, _⟩ := sqY2 B0) | ((with_reducible refine sqc 70 rfl ?_); refine sqC (some 6) func70 #[.agg #[.int .i64 a0_0, .int .i64 a0_1]] ?_; (with_reducible refine (impl_isFraction.calls k a0_0 a0_1 false _ A3.1).mono ?_); refine sqV fun w21 hb => ?_; replace B0 := sqT B0 hb; replace HB := sqS (sqB1 HB E0) hb; (try clear hb)))
 go_ret
 exact ⟨Z16, sqB1 HB E0⟩

end Go.Proofs.YtofmlbgfcohhoaaGreatDoor.PFnExactDeskSay
