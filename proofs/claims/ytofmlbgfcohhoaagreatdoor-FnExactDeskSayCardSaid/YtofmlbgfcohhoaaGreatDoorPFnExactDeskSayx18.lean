import Derived.Test.YtofmlbgfcohhoaaGreatDoorPFnExactDeskSayx17
set_option maxHeartbeats 8000000
set_option maxRecDepth 100000
namespace Go.Proofs.YtofmlbgfcohhoaaGreatDoor.PFnExactDeskSay
open Go.RowKit Go.Proofs.YtofmlbgfcohhoaaGreatDoorW.PrintWords Go.Proofs.YtofmlbgfcohhoaaGreatDoorW.PrintLast Go.Proofs.YtofmlbgfcohhoaaGreatDoorW.PrintMore Go.Proofs.YtofmlbgfcohhoaaGreatDoor.Lib Go.Proofs.Tryz
attribute [local go_sem] max2_int min2_int max_two min_two max_three min_three max_four min_four   -- for this text's walks alone
set_option linter.unusedVariables false
set_option linter.unusedSimpArgs false

/-! ### impl_fractionText: function 141 -/
def impl_fractionText.f (a0_0 : Int) (a0_1 : Int) : Option (ByteArray) := if a0_1 = 1 then ((strconv_Itoa.f a0_0).bind fun t0 => (some t0)) else ((strconv_Itoa.f a0_0).bind fun t1 => (if t1.size + 1 ≤ 9223372036854775807 then ((strconv_Itoa.f a0_1).bind fun t2 => (if (t1 ++ (⟨#[47]⟩ : ByteArray)).size + t2.size ≤ 9223372036854775807 then (some ((t1 ++ (⟨#[47]⟩ : ByteArray)) ++ t2)) else (none))) else (none)))
def impl_fractionText.T3 : Bool × List (List Nat × List Nat) := (true, [([], []), ([0], [0]), ([1], [1]), ([2], [2]), ([], []), ([4], [4]), ([5, 2], [5]), ([3, 6], [3, 6]), ([7, 6, 0, 1, 2, 3, 4, 5, 6, 7], [7])])
def impl_fractionText.B3 : List Nat := [0, 1, 3, 7, 0, 16, 55, 127, 255]
theorem impl_fractionText.tab3 : rtab .any (opsOf f141 3) = impl_fractionText.T3 := by kernel_rfl
theorem impl_fractionText.bits3 : waitsOk impl_fractionText.T3.2 impl_fractionText.B3 = true := by kernel_rfl
theorem impl_fractionText.calls (a0_0 : Int) (a0_1 : Int) (r : ByteArray) (w : World) (hG : Glob w) (H : impl_fractionText.f a0_0 a0_1 = some r) :
  Calls prog 141 #[.agg #[.int .i64 a0_0, .int .i64 a0_1]] w fun e w' => e = .returned (.string r) ∧ Below w.heap.size w w' := by
 have hu31 := underlying31
 have HB := sqh w
 unfold impl_fractionText.f at H
 by_cases c2 : a0_1 = 1
 ·rw [if_pos c2] at H
  have c2b0 : (a0_1 == 1) = true := sqe1 c2
  have c2b1 : (a0_1 != 1) = false := sqn0 c2
  clear c2
  obtain ⟨t0, A3, H⟩ := sqD H
  obtain rfl := sqo H
  go_enter func141, ntmps141
  go_wp2_with (first | ((with_reducible refine sqd 1 rfl ?_); refine sqBx w (sqB HB) (cs := #[.int .i64 a0_0, .int .i64 a0_1]) (t := 31) ?_; intro g0 hg w4 B0 E0 HB hb; clear hb hg; obtain ⟨_, _, _, _⟩ := sqY2 B0) | ((with_reducible refine sqc 144 rfl ?_); refine sqC (some 8) func144 #[.int .i64 a0_0] ?_; (with_reducible refine (strconv_Itoa.calls a0_0 t0 _ ?sideG A3.1).mono ?_); (case sideG => exact Z108 E0); refine sqV fun w6 hb => ?_; replace B0 := sqT B0 hb; replace HB := sqS (sqB1 HB E0) hb; (try clear hb)))
  go_ret
  exact ⟨Z16, sqB1 HB E0⟩
 rw [if_neg c2] at H
 have c2b0 : (a0_1 == 1) = false := sqe0 c2
 have c2b1 : (a0_1 != 1) = true := sqn1 c2
 obtain ⟨t1, A7, H⟩ := sqD H
 obtain ⟨c8, H⟩ := sqI H
 have c8b0 := eq_true c8
 have c8b1 : decide (t1.size + 1 ≤ 9223372036854775807) = true := decide_eq_true c8
 try have c8b2 : (9223372036854775807 < t1.size + 1) = False := eq_false (Nat.not_lt.2 c8)
 obtain ⟨t2, A9, H⟩ := sqD H
 obtain ⟨c10, H⟩ := sqI H
 have c10b0 := eq_true c10
 have c10b1 : decide ((t1 ++ (⟨#[47]⟩ : ByteArray)).size + t2.size ≤ 9223372036854775807) = true := decide_eq_true c10
 try have c10b2 : (9223372036854775807 < (t1 ++ (⟨#[47]⟩ : ByteArray)).size + t2.size) = False := eq_false (Nat.not_lt.2 c10)
 try have c10b7 : (9223372036854775807 < t1.size + 1 + t2.size) = False := by (have h_ := c10b2; (repeat rw [ByteArray.size_append] at h_); exact h_)
 obtain rfl := sqo H
 go_enter func141, ntmps141
 try go_wp2_with (first | ((with_reducible refine sqd 1 rfl ?_); refine sqBx w (sqB HB) (cs := #[.int .i64 a0_0, .int .i64 a0_1]) (t := 31) ?_; intro g0 hg w11 B0 E0 HB hb; clear hb hg; obtain ⟨_, _, _, _⟩ := sqY2 B0))
 replace B0 := sqa (blk_drew B0.1)
 replace HB := sqa (below_drew1 HB.1)
 refine start_ (n := 9) (S := fun w' => w'.cell? ⟨g0, 0, none⟩ = some (.int .i64 a0_0) ∧ w'.cell? ⟨g0, 1, none⟩ = some (.int .i64 a0_1)) (ds := []) #[false, false, false, false, false, false, false, false, false] (by kernel_rfl) rfl rfl (sqk1 B0) (fun hHeld => ?_); refine with_tabW impl_fractionText.tab3 impl_fractionText.bits3 (fun HT_ HW_ => ?_)
 generalize w11.drew = w13 at B0 HB hHeld ⊢
 refine sqP 0 (some 9) (h := ?_)
 refine sqP 4 (some 13) (h := ?_)
 refine sqQ 1 (some 10) hHeld (h := ?_)
 refine sqQ 5 (some 14) hHeld (h := ?_)
 refine one_ (i := 2) (N := some 11) #[true, true, true, false, true, true, false, false, false] rfl rfl (one_of HT_.out (by kernel_rfl)) (by decide) (fun K hK => ?_)
 refine goes_ func144 (by kernel_rfl) rfl #[.int .i64 a0_0] (by rfl) rfl rfl sqA ?_
 with_reducible refine (strconv_Itoa.calls a0_0 t1 _ ?sideG A7.1).mono ?_
 (case sideG => exact Z108 E0)
 rintro e w14 ⟨rfl, hb⟩
 refine ⟨_, rfl, ?_⟩
 replace B0 := sqT B0 hb
 replace HB := sqS (sqB1 HB E0) hb
 (try clear hb)
 (try clear hb2)
 (try clear hk)
 (try clear hi)
 refine hK.out _ _ (sqk1 B0) (fun hHeld => ?_)
 clear hK K
 refine sqN (some 11) ?_
 refine sqP 3 (some 12) (h := ?_)
 refine one_ (i := 6) (N := some 15) #[true, true, true, true, true, true, true, false, false] rfl rfl (one_of HT_.out (by kernel_rfl)) (by decide) (fun K hK => ?_)
 refine goes_ func144 (by kernel_rfl) rfl #[.int .i64 a0_1] (by rfl) rfl rfl sqA ?_
 with_reducible refine (strconv_Itoa.calls a0_1 t2 _ ?sideG A9.1).mono ?_
 (case sideG => exact Z108 E0)
 rintro e w15 ⟨rfl, hb⟩
 refine ⟨_, rfl, ?_⟩
 replace B0 := sqT B0 hb
 replace HB := sqS (sqB1 HB E0) hb
 (try clear hb)
 (try clear hb2)
 (try clear hk)
 (try clear hi)
 refine hK.out _ _ (sqk1 B0) (fun hHeld => ?_)
 clear hK K
 refine sqN (some 15) ?_
 refine sqP 7 (some 16) (h := ?_)
 refine sqP 8 (some 2) (h := ?_)
 refine done_ (done_of HT_.out (by kernel_rfl)) ?_
 try go_wp2
 go_ret
 exact ⟨Z16, sqB1 HB E0⟩

-- given: function 151 (strconv_Atoi)

/-! ### impl_ReadFraction: function 126 -/
def impl_ReadFraction.j0 : Nat → ByteArray → Int → Option Int → Int → Option (Int × Int × Bool)
 | 0, _, _, _, _ => none
 | k + 1, x0, x7, x8, x9 => if x8.isNone = true then ((impl_isFraction.f k x7 x9).bind fun t0 => (if t0 = true then ((impl_fractionText.f x7 x9).bind fun t1 => (if t1.toList = x0.toList then (some (x7, x9, true)) else (some (0, 0, false)))) else (some (0, 0, false)))) else (some (0, 0, false))
def impl_ReadFraction.f (k : Nat) (a0 : ByteArray) : Option (Int × Int × Bool) := (strings_Cut.f a0 (⟨#[47]⟩ : ByteArray)).bind fun bt0 => ((strconv_Atoi.f bt0.1).bind fun bt1 => (if bt0.2.2 = true then ((strconv_Atoi.f bt0.2.1).bind fun bt2 => (if bt2.2.isNone = true then (impl_ReadFraction.j0 k a0 bt1.1 bt1.2 bt2.1) else (some (0, 0, false)))) else (impl_ReadFraction.j0 k a0 bt1.1 bt1.2 1)))
abbrev impl_ReadFraction.M (k : Nat) : Prop := (∀ y0 y1 y2 y3, LeO (impl_ReadFraction.j0 k y0 y1 y2 y3) (impl_ReadFraction.j0 (k + 1) y0 y1 y2 y3))
theorem impl_ReadFraction.mono_t : ∀ k, impl_ReadFraction.M k → impl_ReadFraction.M (k + 1) ∧ ∀ a0, LeO (impl_ReadFraction.f k a0) (impl_ReadFraction.f (k + 1) a0) := by
  rintro k ih0
  refine ⟨?_, ?_⟩ <;> (try unfold impl_ReadFraction.M) <;> intros <;> (first | unfold impl_ReadFraction.j0 | unfold impl_ReadFraction.f) <;> repeat' (with_reducible first | exact ih0 _ _ _ _ | exact impl_isFraction.mono _ _ _ | exact LeO.refl _ | exact LeO.none _ | refine LeO.ite ?_ ?_ | refine LeO.bind ?_ fun _ => ?_)
theorem impl_ReadFraction.mono_l : ∀ k, impl_ReadFraction.M k
 | 0 => fun _ _ _ _ r h => by simp [impl_ReadFraction.j0] at h
 | k + 1 => (impl_ReadFraction.mono_t k (impl_ReadFraction.mono_l k)).1
theorem impl_ReadFraction.mono a0 k : LeO (impl_ReadFraction.f k a0) (impl_ReadFraction.f (k + 1) a0) := (impl_ReadFraction.mono_t k (impl_ReadFraction.mono_l k)).2 a0
theorem impl_ReadFraction.calls (k : Nat) (a0 : ByteArray) (r1 : Int) (r2 : Int) (r3 : Bool) (w : World) (hG : Glob w) (H : impl_ReadFraction.f k a0 = some (r1, r2, r3)) :
  Calls prog 126 #[.string a0] w fun e w' => e = .returned (.tuple #[.agg #[.int .i64 r1, .int .i64 r2], .bool r3]) ∧ Below w.heap.size w w' := by
 have hu31 := underlying31
 have hu150 := underlying150
 have HB := sqh w
 unfold impl_ReadFraction.f at H
 obtain ⟨⟨t0, t1, t2⟩, A2, H⟩ := sqD H
 try dsimp only at H
 obtain ⟨⟨t529, t3⟩, A3, H⟩ := sqD H
 try dsimp only at H
 have HC4 := sqa H
 clear H
 go_enter func126, ntmps126
 go_upto_if 24 with (first | ((with_reducible refine sqd 2 rfl ?_); refine sqBx w (sqB HB) (cs := #[.int .i64 0, .int .i64 0]) (t := 31) ?_; intro g0 hg w5 B0 E0 HB hb; clear hb hg) | ((with_reducible refine sqc 84 rfl ?_); refine sqC (some 15) func84 #[.string a0, .string (⟨#[47]⟩ : ByteArray)] ?_; (with_reducible refine (strings_Cut.calls a0 (⟨#[47]⟩ : ByteArray) t0 t1 t2 _ ?sideG A2.1).mono ?_); (case sideG => exact Z108 E0); refine sqV fun w6 hb => ?_; replace B0 := sqT B0 hb; replace HB := sqS (sqB1 HB E0) hb; (try clear hb)) | ((with_reducible refine sqc 151 rfl ?_); refine sqC (some 21) func151 #[.string t0] ?_; (with_reducible refine (strconv_Atoi.calls t0 t529 t3 _ ?sideG A3.1).mono ?_); (case sideG => exact Z108 E0); rintro e w7 ⟨q_t0, hq_t0, rfl, hb⟩; refine ⟨_, rfl, ?_⟩; replace B0 := sqT B0 hb; replace HB := sqS (sqB1 HB E0) hb; (try clear hb); (try simp only [errP_none, errP_some])))
 (try simp only [Act.put, List.setIfInBounds_toArray, List.set_cons_zero, List.set_cons_succ])
 go_cut [9] (fun v9 wc => ∃ (kq : Nat) (x9_3 : Int) (x526000_3 : Int) (x526001_3 : Int), v9 = .int .i64 x9_3 ∧ Aside0 (impl_ReadFraction.j0 kq a0 t529 t3 x9_3 = some (r1, r2, r3)) ∧ Aside0 (kq ≤ k) ∧ Aside0 (wc.heap[g0]? = some (.cells #[.int .i64 x526000_3, .int .i64 x526001_3] 31 (0, 0))) ∧ Aside0 (Below w.heap.size w wc))
 case first =>
  have H := HC4.1
  clear HC4
  by_cases c8 : t2 = true
  ·subst c8
   rw [if_pos rfl] at H
   obtain ⟨⟨t4, t5⟩, A9, H⟩ := sqD H
   try dsimp only at H
   rcases t5 with _ | q0
   ·have H1 : (impl_ReadFraction.j0 k a0 t529 t3 t4) = some (r1, r2, r3) := by rw [if_pos (show (none : Option Int).isNone = true by rfl)] at H; exact H
    clear H
    have H := H1
    clear H1
    try simp only [errP_none, errP_some]
    have H' := sqa H
    clear H
    go_wp2_with (first | ((with_reducible refine sqc 151 rfl ?_); refine sqC (some 27) func151 #[.string t1] ?_; (with_reducible refine (strconv_Atoi.calls t1 t4 none _ ?sideG A9.1).mono ?_); (case sideG => exact Z108 E0); rintro e w10 ⟨qe, hqe, rfl, hb⟩; obtain rfl := isNone_none hqe; refine ⟨_, rfl, ?_⟩; replace B0 := sqT B0 hb; replace HB := sqS (sqB1 HB E0) hb; (try clear hb); (try simp only [errP_none, errP_some])))
    go_meet
    case rel => exact ⟨_, (t4), (0), (0), Z4, H', ⟨Z5⟩, ⟨sqK B0⟩, ⟨sqB1 HB E0⟩⟩
   ·have H1 : (some (0, 0, false)) = some (r1, r2, r3) := by rw [if_neg (show ¬ (some q0).isNone = true by simp)] at H; exact H
    clear H
    have H := H1
    clear H1
    try simp only [errP_none, errP_some]
    obtain ⟨rfl, rfl, rfl⟩ := sqO3 H
    go_wp2_with (first | ((with_reducible refine sqc 151 rfl ?_); refine sqC (some 27) func151 #[.string t1] ?_; (with_reducible refine (strconv_Atoi.calls t1 t4 (some q0) _ ?sideG A9.1).mono ?_); (case sideG => exact Z108 E0); rintro e w11 ⟨qe, hqe, rfl, hb⟩; obtain ⟨qz, rfl⟩ := isNone_some hqe; refine ⟨_, rfl, ?_⟩; replace B0 := sqT B0 hb; replace HB := sqS (sqB1 HB E0) hb; (try clear hb); (try simp only [errP_none, errP_some]); obtain ⟨_, _, _, _⟩ := sqY2 B0))
    refine sqE g0 31 #[.int .i64 0, .int .i64 0] (Z54 B0) underlying31 ?_
    exact ⟨Z16, sqB1 HB E0⟩
  obtain rfl := sqb c8
  rw [if_neg sqF] at H
  have H' := sqa H
  clear H
  go_wp2
  go_meet
  case rel => exact ⟨_, (1), (0), (0), Z4, H', ⟨Z5⟩, ⟨sqK B0⟩, ⟨sqB1 HB E0⟩⟩
 case rest =>
  clear HC4
  obtain ⟨kq, x9_3, x526000_3, x526001_3, rfl, HA, HJ3, B0, HB⟩ := hcut
  cases kq with
  | zero => exact absurd HA.out (by simp [impl_ReadFraction.j0])
  | succ kj3 =>
   have H := HA.out
   clear HA
   simp only [impl_ReadFraction.j0] at H
   rcases t3 with _ | q1
   ·obtain rfl := isNone_none hq_t0
    have H1 : ((impl_isFraction.f kj3 t529 x9_3).bind fun t6 => (if t6 = true then ((impl_fractionText.f t529 x9_3).bind fun t7 => (if t7.toList = a0.toList then (some (t529, x9_3, true)) else (some (0, 0, false)))) else (some (0, 0, false)))) = some (r1, r2, r3) := by rw [if_pos (show (none : Option Int).isNone = true by rfl)] at H; exact H
    clear H
    have H := H1
    clear H1
    try simp only [errP_none, errP_some]
    obtain ⟨t6, A13, H⟩ := sqD H
    by_cases c14 : t6 = true
    ·subst c14
     rw [if_pos rfl] at H
     obtain ⟨t7, A15, H⟩ := sqD H
     by_cases c16 : t7.toList = a0.toList
     ·rw [if_pos c16] at H
      have c16b0 : (t7.toList == a0.toList) = true := sqe1 c16
      have c16b1 : (t7.toList != a0.toList) = false := sqn0 c16
      clear c16
      obtain ⟨rfl, rfl, rfl⟩ := sqO3 H
      go_wp2_with (first | ((with_reducible refine sqd 12 rfl ?_); refine sqBx w (sqB1 HB E0) (cs := #[.int .i64 0, .int .i64 0]) (t := 31) ?_; intro g1 hg w17 B2 E1 HB hb; obtain ⟨N0, N1⟩ := sqM hg B0; replace B0 := sqT B0 hb; clear hb hg; have := N1.1; have := N0.1; obtain ⟨_, _, _, _⟩ := sqY2 B2) | (go_at_call 70; (with_reducible refine (impl_isFraction.calls kj3 t529 x9_3 true _ A13.1).mono ?_); rintro e w20 ⟨rfl, hb⟩; replace B0 := sqH N0 B0 hb; replace B2 := sqa (blk_below (g := g1) (o := .cells #[.int .i64 t529, .int .i64 x9_3] 31 (0, 0)) (Z109 B2) hb); replace HB := sqS (sqB2 HB E0 E1) hb; (try clear hb); obtain ⟨_, _, _, _⟩ := sqY2 B2) | (go_at_call 141; (with_reducible refine (impl_fractionText.calls t529 x9_3 t7 _ ?sideG A15.1).mono ?_); (case sideG => exact Z61 E0 E1); rintro e w22 ⟨rfl, hb⟩; replace B0 := sqT B0 hb; replace B2 := sqT B2 hb; replace HB := sqS (sqB2 HB E0 E1) hb; (try clear hb); obtain ⟨_, _, _, _⟩ := sqY2 B2; obtain ⟨_, _, _, _⟩ := sqY2 B0))
      refine sqE g0 31 #[.int .i64 t529, .int .i64 x9_3] (by refine sqPut (cs := #[.int .i64 t529, .int .i64 x526001_3]) ?_ 1; refine sqPut (cs := #[.int .i64 x526000_3, .int .i64 x526001_3]) ?_ 0; exact sqK B0) underlying31 ?_
      exact ⟨Z16, sqB2 HB E0 E1⟩
     rw [if_neg c16] at H
     have c16b0 : (t7.toList == a0.toList) = false := sqe0 c16
     have c16b1 : (t7.toList != a0.toList) = true := sqn1 c16
     obtain ⟨rfl, rfl, rfl⟩ := sqO3 H
     go_wp2_with (first | ((with_reducible refine sqd 12 rfl ?_); refine sqBx w (sqB1 HB E0) (cs := #[.int .i64 0, .int .i64 0]) (t := 31) ?_; intro g1 hg w25 B2 E1 HB hb; obtain ⟨N0, N1⟩ := sqM hg B0; replace B0 := sqT B0 hb; clear hb hg; have := N1.1; have := N0.1; obtain ⟨_, _, _, _⟩ := sqY2 B2) | (go_at_call 70; (with_reducible refine (impl_isFraction.calls kj3 t529 x9_3 true _ A13.1).mono ?_); rintro e w28 ⟨rfl, hb⟩; replace B0 := sqH N0 B0 hb; replace B2 := sqa (blk_below (g := g1) (o := .cells #[.int .i64 t529, .int .i64 x9_3] 31 (0, 0)) (Z109 B2) hb); replace HB := sqS (sqB2 HB E0 E1) hb; (try clear hb); obtain ⟨_, _, _, _⟩ := sqY2 B2) | (go_at_call 141; (with_reducible refine (impl_fractionText.calls t529 x9_3 t7 _ ?sideG A15.1).mono ?_); (case sideG => exact Z61 E0 E1); rintro e w30 ⟨rfl, hb⟩; replace B0 := sqT B0 hb; replace B2 := sqT B2 hb; replace HB := sqS (sqB2 HB E0 E1) hb; (try clear hb); obtain ⟨_, _, _, _⟩ := sqY2 B0))
     refine sqE g0 31 #[.int .i64 0, .int .i64 0] (Z110 B0) underlying31 ?_
     exact ⟨Z16, sqB2 HB E0 E1⟩
    obtain rfl := sqb c14
    rw [if_neg sqF] at H
    obtain ⟨rfl, rfl, rfl⟩ := sqO3 H
    go_wp2_with (first | ((with_reducible refine sqd 12 rfl ?_); refine sqBx w (sqB1 HB E0) (cs := #[.int .i64 0, .int .i64 0]) (t := 31) ?_; intro g1 hg w32 B2 E1 HB hb; obtain ⟨N0, N1⟩ := sqM hg B0; replace B0 := sqT B0 hb; clear hb hg; have := N1.1; have := N0.1; obtain ⟨_, _, _, _⟩ := sqY2 B2) | (go_at_call 70; (with_reducible refine (impl_isFraction.calls kj3 t529 x9_3 false _ A13.1).mono ?_); rintro e w35 ⟨rfl, hb⟩; replace B0 := sqH N0 B0 hb; replace B2 := sqa (blk_below (g := g1) (o := .cells #[.int .i64 t529, .int .i64 x9_3] 31 (0, 0)) (Z109 B2) hb); replace HB := sqS (sqB2 HB E0 E1) hb; (try clear hb); obtain ⟨_, _, _, _⟩ := sqY2 B0))
    refine sqE g0 31 #[.int .i64 0, .int .i64 0] (Z110 B0) underlying31 ?_
    exact ⟨Z16, sqB2 HB E0 E1⟩
   ·obtain ⟨qz_, rfl⟩ := isNone_some hq_t0
    have H1 : (some (0, 0, false)) = some (r1, r2, r3) := by rw [if_neg (show ¬ (some q1).isNone = true by simp)] at H; exact H
    clear H
    have H := H1
    clear H1
    try simp only [errP_none, errP_some]
    obtain ⟨rfl, rfl, rfl⟩ := sqO3 H
    go_wp2_with (first | ((with_reducible refine sqd 12 rfl ?_); refine sqBx w (sqB1 HB E0) (cs := #[.int .i64 0, .int .i64 0]) (t := 31) ?_; intro g1 hg w37 B2 E1 HB hb; obtain ⟨N0, N1⟩ := sqM hg B0; replace B0 := sqT B0 hb; clear hb hg; have := N1.1; have := N0.1; obtain ⟨_, _, _, _⟩ := sqY2 B2; obtain ⟨_, _, _, _⟩ := sqY2 B0))
    refine sqE g0 31 #[.int .i64 0, .int .i64 0] (by refine sqPut (cs := #[.int .i64 0, .int .i64 x526001_3]) ?_ 1; refine sqPut (cs := #[.int .i64 x526000_3, .int .i64 x526001_3]) ?_ 0; refine sqFar ?_ N0; refine sqFar ?_ N0; exact sqK B0) underlying31 ?_
    exact ⟨Z16, sqB2 HB E0 E1⟩

/-! ### impl_mirrored: function 138 -/
def impl_mirrored.f (a0_0 : Int) (a0_1 : Int) : Option (Int × Int) := if a0_1 > 0 then (some (wrap64 (-a0_0), a0_1)) else (some (a0_0, a0_1))
theorem impl_mirrored.calls (a0_0 : Int) (a0_1 : Int) (r1 : Int) (r2 : Int) (w : World) (H : impl_mirrored.f a0_0 a0_1 = some (r1, r2)) :
  Calls prog 138 #[.agg #[.int .i64 a0_0, .int .i64 a0_1]] w fun e w' => e = .returned (.agg #[.int .i64 r1, .int .i64 r2]) ∧ Below w.heap.size w w' := by
 have hu31 := underlying31
 have HB := sqh w
 unfold impl_mirrored.f at H
 by_cases c2 : a0_1 > 0
 ·rw [if_pos c2] at H
  have c2b0 : decide (0 < a0_1) = true := decide_eq_true c2
  clear c2
  obtain ⟨rfl, rfl⟩ := sqO2 H
  go_enter func138, ntmps138
  go_wp2_with (first | ((with_reducible refine sqd 1 rfl ?_); refine sqBx w (sqB HB) (cs := #[.int .i64 a0_0, .int .i64 a0_1]) (t := 31) ?_; intro g0 hg w3 B0 E0 HB hb; clear hb hg) | ((with_reducible refine sqd 2 rfl ?_); refine sqBx w (sqB1 HB E0) (cs := #[.int .i64 0, .int .i64 0]) (t := 31) ?_; intro g1 hg w4 B2 E1 HB hb; obtain ⟨N0, N1⟩ := sqM hg B0; replace B0 := sqT B0 hb; clear hb hg; have := N0.1; have := N1.1; obtain ⟨_, _, _, _⟩ := sqY2 B0; obtain ⟨_, _, _, _⟩ := sqY2 B2))
  refine bodyPost_ret (results_cell_row rfl _ _ g1 31 #[.int .i64 (wrap64 (-a0_0)), .int .i64 a0_1] (0, 0) _ rfl (by refine sqPut (cs := #[.int .i64 (wrap64 (-a0_0)), .int .i64 0]) ?_ 1; refine sqPut (cs := #[.int .i64 0, .int .i64 0]) ?_ 0; refine sqFar ?_ N1; exact sqK B2) underlying31 rfl (by kernel_rfl)) rfl ?_
  exact ⟨Z16, sqB2 HB E0 E1⟩
 rw [if_neg c2] at H
 have c2b0 : decide (0 < a0_1) = false := decide_eq_false c2
 clear c2
 obtain ⟨rfl, rfl⟩ := sqO2 H
 go_enter func138, ntmps138
 go_wp2_with (first | ((with_reducible refine sqd 1 rfl ?_); refine sqBx w (sqB HB) (cs := #[.int .i64 a0_0, .int .i64 a0_1]) (t := 31) ?_; intro g0 hg w8 B0 E0 HB hb; clear hb hg) | ((with_reducible refine sqd 2 rfl ?_); refine sqBx w (sqB1 HB E0) (cs := #[.int .i64 0, .int .i64 0]) (t := 31) ?_; intro g1 hg w9 B2 E1 HB hb; obtain ⟨N0, N1⟩ := sqM hg B0; replace B0 := sqT B0 hb; clear hb hg; have := N0.1; have := N1.1; obtain ⟨_, _, _, _⟩ := sqY2 B0; obtain ⟨_, _, _, _⟩ := sqY2 B2))
 refine bodyPost_ret (results_cell_row rfl _ _ g1 31 #[.int .i64 a0_0, .int .i64 a0_1] (0, 0) _ rfl (Z27 B2) underlying31 rfl (by kernel_rfl)) rfl ?_
 exact ⟨Z16, sqB2 HB E0 E1⟩

/-! ### impl_nextFraction: function 111 -/
def impl_nextFraction.j0 : Nat → Bool → Int → Int → Int → ByteArray → Option (Int × Int × Bool)
 | 0, _, _, _, _, _ => none
 | k + 1, x25, x0, x1, x2, x3 => if x25 = true then ((impl_mirrored.f x0 x1).bind fun bt0 => (some (bt0.1, bt0.2, true))) else (if x2 = 3 then (if x3.toList = ([] : List UInt8) then ((impl_isSmall.f k x0 x1 12).bind fun t0 => (some (0, 1, t0))) else (some (0, 0, false))) else (some (0, 0, false)))
def impl_nextFraction.f (k : Nat) (a0_0 : Int) (a0_1 : Int) (a1_0 : Int) (a1_1 : ByteArray) : Option (Int × Int × Bool) := if a1_0 = 0 then ((impl_DancedFrom.f k a0_0 a0_1 a1_1).bind fun bt0 => (some (bt0.1, bt0.2.1, bt0.2.2))) else (if a1_0 = 1 then ((impl_ReadFraction.f k a1_1).bind fun bt1 => (some (bt1.1, bt1.2.1, bt1.2.2))) else (if a1_0 = 2 then (impl_nextFraction.j0 k (a1_1.toList == ([] : List UInt8)) a0_0 a0_1 a1_0 a1_1) else (impl_nextFraction.j0 k false a0_0 a0_1 a1_0 a1_1)))
abbrev impl_nextFraction.M (k : Nat) : Prop := (∀ y0 y1 y2 y3 y4, LeO (impl_nextFraction.j0 k y0 y1 y2 y3 y4) (impl_nextFraction.j0 (k + 1) y0 y1 y2 y3 y4))
theorem impl_nextFraction.mono_t : ∀ k, impl_nextFraction.M k → impl_nextFraction.M (k + 1) ∧ ∀ a0 a1 a2 a3, LeO (impl_nextFraction.f k a0 a1 a2 a3) (impl_nextFraction.f (k + 1) a0 a1 a2 a3) := by
  rintro k ih0
  refine ⟨?_, ?_⟩ <;> (try unfold impl_nextFraction.M) <;> intros <;> (first | unfold impl_nextFraction.j0 | unfold impl_nextFraction.f) <;> repeat' (with_reducible first | exact ih0 _ _ _ _ _ | exact impl_DancedFrom.mono _ _ _ _ | exact impl_ReadFraction.mono _ _ | exact impl_isSmall.mono _ _ _ _ | exact LeO.refl _ | exact LeO.none _ | refine LeO.ite ?_ ?_ | refine LeO.bind ?_ fun _ => ?_)
theorem impl_nextFraction.mono_l : ∀ k, impl_nextFraction.M k
 | 0 => fun _ _ _ _ _ r h => by simp [impl_nextFraction.j0] at h
 | k + 1 => (impl_nextFraction.mono_t k (impl_nextFraction.mono_l k)).1
theorem impl_nextFraction.mono a0 a1 a2 a3 k : LeO (impl_nextFraction.f k a0 a1 a2 a3) (impl_nextFraction.f (k + 1) a0 a1 a2 a3) := (impl_nextFraction.mono_t k (impl_nextFraction.mono_l k)).2 a0 a1 a2 a3
theorem impl_nextFraction.calls (k : Nat) (a0_0 : Int) (a0_1 : Int) (a1_0 : Int) (a1_1 : ByteArray) (r1 : Int) (r2 : Int) (r3 : Bool) (w : World) (hG : Glob w) (H : impl_nextFraction.f k a0_0 a0_1 a1_0 a1_1 = some (r1, r2, r3)) :
  Calls prog 111 #[.agg #[.int .i64 a0_0, .int .i64 a0_1], .agg #[.int .i64 a1_0, .string a1_1]] w fun e w' => e = .returned (.tuple #[.agg #[.int .i64 r1, .int .i64 r2], .bool r3]) ∧ Below w.heap.size w w' := by
 have hu31 := underlying31
 have hu38 := underlying38
 have HB := sqh w
 unfold impl_nextFraction.f at H
 by_cases c3 : a1_0 = 0
 ·rw [if_pos c3] at H
  have c3b0 : (a1_0 == 0) = true := sqe1 c3
  have c3b1 : (a1_0 != 0) = false := sqn0 c3
  clear c3
  obtain ⟨⟨t0, t1, t2⟩, A4, H⟩ := sqD H
  try dsimp only at H
  obtain ⟨rfl, rfl, rfl⟩ := sqO3 H
  go_enter func111, ntmps111
  go_wp2_with (first | ((with_reducible refine sqd 2 rfl ?_); refine sqBx w (sqB HB) (cs := #[.int .i64 a0_0, .int .i64 a0_1]) (t := 31) ?_; intro g0 hg w5 B0 E0 HB hb; clear hb hg) | ((with_reducible refine sqd 3 rfl ?_); refine sqBx w (sqB1 HB E0) (cs := #[.int .i64 a1_0, .string a1_1]) (t := 38) ?_; intro g1 hg w6 B2 E1 HB hb; obtain ⟨N0, N1⟩ := sqM hg B0; replace B0 := sqT B0 hb; clear hb hg) | ((with_reducible refine sqd 4 rfl ?_); refine sqBx w (sqB2 HB E0 E1) (cs := #[.int .i64 0, .int .i64 0]) (t := 31) ?_; intro g2 hg w7 B9 E2 HB hb; obtain ⟨N2, N3⟩ := sqM hg B0; replace B0 := sqT B0 hb; obtain ⟨N4, N5⟩ := sqM hg B2; replace B2 := sqT B2 hb; clear hb hg; have := N1.1; have := N0.1; have := N4.1; have := N5.1; obtain ⟨_, _, _, _⟩ := sqY2 B2; have := N2.1; have := N3.1; obtain ⟨_, _, _, _⟩ := sqY2 B0) | ((with_reducible refine sqc 25 rfl ?_); refine sqC (some 13) func25 #[.agg #[.int .i64 a0_0, .int .i64 a0_1], .string a1_1] ?_; (with_reducible refine (impl_DancedFrom.calls k a0_0 a0_1 a1_1 t0 t1 t2 _ A4.1).mono ?_); refine sqV fun w13 hb => ?_; replace B0 := sqT B0 hb; replace B2 := sqT B2 hb; replace B9 := sqT B9 hb; replace HB := sqS (sqB3 HB E0 E1 E2) hb; (try clear hb); obtain ⟨_, _, _, _⟩ := sqY2 B9))
  refine sqE g2 31 #[.int .i64 t0, .int .i64 t1] (by refine sqPut (cs := #[.int .i64 t0, .int .i64 0]) ?_ 1; refine sqPut (cs := #[.int .i64 0, .int .i64 0]) ?_ 0; exact sqK B9) underlying31 ?_
  exact ⟨Z16, sqB3 HB E0 E1 E2⟩
 rw [if_neg c3] at H
 have c3b0 : (a1_0 == 0) = false := sqe0 c3
 have c3b1 : (a1_0 != 0) = true := sqn1 c3
 by_cases c15 : a1_0 = 1
 ·rw [if_pos c15] at H
  have c15b0 : (a1_0 == 1) = true := sqe1 c15
  have c15b1 : (a1_0 != 1) = false := sqn0 c15
  clear c15
  obtain ⟨⟨t3, t4, t5⟩, A16, H⟩ := sqD H
  try dsimp only at H
  obtain ⟨rfl, rfl, rfl⟩ := sqO3 H
  go_enter func111, ntmps111
  go_wp2_with (first | ((with_reducible refine sqd 2 rfl ?_); refine sqBx w (sqB HB) (cs := #[.int .i64 a0_0, .int .i64 a0_1]) (t := 31) ?_; intro g0 hg w17 B0 E0 HB hb; clear hb hg) | ((with_reducible refine sqd 3 rfl ?_); refine sqBx w (sqB1 HB E0) (cs := #[.int .i64 a1_0, .string a1_1]) (t := 38) ?_; intro g1 hg w18 B2 E1 HB hb; obtain ⟨N0, N1⟩ := sqM hg B0; replace B0 := sqT B0 hb; clear hb hg) | ((with_reducible refine sqd 4 rfl ?_); refine sqBx w (sqB2 HB E0 E1) (cs := #[.int .i64 0, .int .i64 0]) (t := 31) ?_; intro g2 hg w19 B9 E2 HB hb; obtain ⟨N2, N3⟩ := sqM hg B0; replace B0 := sqT B0 hb; obtain ⟨N4, N5⟩ := sqM hg B2; replace B2 := sqT B2 hb; clear hb hg; have := N1.1; have := N0.1; have := N4.1; have := N5.1; obtain ⟨_, _, _, _⟩ := sqY2 B2) | ((with_reducible refine sqc 126 rfl ?_); refine sqC (some 22) func126 #[.string a1_1] ?_; (with_reducible refine (impl_ReadFraction.calls k a1_1 t3 t4 t5 _ ?sideG A16.1).mono ?_); (case sideG => exact Glob.below hG (sqB3 HB E0 E1 E2)); refine sqV fun w23 hb => ?_; replace B0 := sqT B0 hb; replace B2 := sqT B2 hb; replace B9 := sqT B9 hb; replace HB := sqS (sqB3 HB E0 E1 E2) hb; (try clear hb); have := N3.1; have := N2.1; obtain ⟨_, _, _, _⟩ := sqY2 B9))
  refine sqE g2 31 #[.int .i64 t3, .int .i64 t4] (by refine sqPut (cs := #[.int .i64 t3, .int .i64 0]) ?_ 1; refine sqPut (cs := #[.int .i64 0, .int .i64 0]) ?_ 0; exact sqK B9) underlying31 ?_
  exact ⟨Z16, sqB3 HB E0 E1 E2⟩
 rw [if_neg c15] at H
 have c15b0 : (a1_0 == 1) = false := sqe0 c15
 have c15b1 : (a1_0 != 1) = true := sqn1 c15
 have HC26 := sqa H
 clear H
 go_enter func111, ntmps111
 go_upto_region 5 with (first | ((with_reducible refine sqd 2 rfl ?_); refine sqBx w (sqB HB) (cs := #[.int .i64 a0_0, .int .i64 a0_1]) (t := 31) ?_; intro g0 hg w27 B0 E0 HB hb; clear hb hg) | ((with_reducible refine sqd 3 rfl ?_); refine sqBx w (sqB1 HB E0) (cs := #[.int .i64 a1_0, .string a1_1]) (t := 38) ?_; intro g1 hg w28 B2 E1 HB hb; obtain ⟨N0, N1⟩ := sqM hg B0; replace B0 := sqT B0 hb; clear hb hg) | ((with_reducible refine sqd 4 rfl ?_); refine sqBx w (sqB2 HB E0 E1) (cs := #[.int .i64 0, .int .i64 0]) (t := 31) ?_; intro g2 hg w29 B9 E2 HB hb; obtain ⟨N2, N3⟩ := sqM hg B0; replace B0 := sqT B0 hb; obtain ⟨N4, N5⟩ := sqM hg B2; replace B2 := sqT B2 hb; clear hb hg; have := N1.1; have := N0.1; have := N4.1; have := N5.1; obtain ⟨_, _, _, _⟩ := sqY2 B2))
 (try simp only [Act.put, List.setIfInBounds_toArray, List.set_cons_zero, List.set_cons_succ])
 go_cut [25] (fun v25 wc => ∃ (kq : Nat) (x25_25 : Bool), v25 = .bool x25_25 ∧ Aside0 (impl_nextFraction.j0 kq x25_25 a0_0 a0_1 a1_0 a1_1 = some (r1, r2, r3)) ∧ Aside0 (kq ≤ k) ∧ Aside0 (wc.heap[g0]? = some (.cells #[.int .i64 a0_0, .int .i64 a0_1] 31 (0, 0))) ∧ Aside0 (wc.heap[g1]? = some (.cells #[.int .i64 a1_0, .string a1_1] 38 (0, 0))) ∧ Aside0 (wc.heap[g2]? = some (.cells #[.int .i64 0, .int .i64 0] 31 (0, 0))) ∧ Aside0 (Below w.heap.size w wc))
 case first =>
  have H := HC26.1
  clear HC26
  by_cases c33 : a1_0 = 2
  ·rw [if_pos c33] at H
   have c33b0 : (a1_0 == 2) = true := sqe1 c33
   have c33b1 : (a1_0 != 2) = false := sqn0 c33
   clear c33
   (first | rw [c33b0] | (simp only [i64_w, i32_w]; rw [c33b0]) | skip)
   have H' := sqa H
   clear H
   have := N1.1
   have := N0.1
   have := N4.1
   have := N5.1
   obtain ⟨_, _, _, _⟩ := sqY2 B2
   go_wp2
   go_meet
   case rel => exact ⟨_, ((a1_1.toList == ([] : List UInt8))), Z4, H', ⟨Z5⟩, ⟨sqK B0⟩, ⟨sqK B2⟩, ⟨sqK B9⟩, ⟨sqB3 HB E0 E1 E2⟩⟩
  rw [if_neg c33] at H
  have c33b0 : (a1_0 == 2) = false := sqe0 c33
  have c33b1 : (a1_0 != 2) = true := sqn1 c33
  (first | rw [c33b0] | (simp only [i64_w, i32_w]; rw [c33b0]) | skip)
  have H' := sqa H
  clear H
  have := N1.1
  have := N0.1
  have := N4.1
  have := N5.1
  obtain ⟨_, _, _, _⟩ := sqY2 B2
  go_wp2
  go_meet
  case rel => exact ⟨_, (false), Z4, H', ⟨Z5⟩, ⟨sqK B0⟩, ⟨sqK B2⟩, ⟨sqK B9⟩, ⟨sqB3 HB E0 E1 E2⟩⟩
 case rest =>
  clear HC26
  obtain ⟨kq, x25_25, rfl, HA, HJ25, B0, B2, B9, HB⟩ := hcut
  cases kq with
  | zero => exact absurd HA.out (by simp [impl_nextFraction.j0])
  | succ kj25 =>
   have H := HA.out
   clear HA
   simp only [impl_nextFraction.j0] at H
   by_cases c40 : x25_25 = true
   ·subst c40
    rw [if_pos rfl] at H
    obtain ⟨⟨t6, t7⟩, A41, H⟩ := sqD H
    try dsimp only at H
    obtain ⟨rfl, rfl, rfl⟩ := sqO3 H
    have := N0.1
    have := N1.1
    have := N2.1
    have := N3.1
    obtain ⟨_, _, _, _⟩ := sqY2 B0
    go_wp2_with (first | ((with_reducible refine sqc 138 rfl ?_); refine sqC (some 35) func138 #[.agg #[.int .i64 a0_0, .int .i64 a0_1]] ?_; (with_reducible refine (impl_mirrored.calls a0_0 a0_1 t6 t7 _ A41.1).mono ?_); refine sqV fun w45 hb => ?_; replace B0 := sqT B0 hb; replace B2 := sqT B2 hb; replace B9 := sqT B9 hb; replace HB := sqS (sqB3 HB E0 E1 E2) hb; (try clear hb); have := N5.1; have := N4.1; obtain ⟨_, _, _, _⟩ := sqY2 B9))
    refine sqE g2 31 #[.int .i64 t6, .int .i64 t7] (by refine sqPut (cs := #[.int .i64 t6, .int .i64 0]) ?_ 1; refine sqPut (cs := #[.int .i64 0, .int .i64 0]) ?_ 0; exact sqK B9) underlying31 ?_
    exact ⟨Z16, sqB3 HB E0 E1 E2⟩
   obtain rfl := sqb c40
   rw [if_neg sqF] at H
   by_cases c48 : a1_0 = 3
   ·rw [if_pos c48] at H
    have c48b0 : (a1_0 == 3) = true := sqe1 c48
    have c48b1 : (a1_0 != 3) = false := sqn0 c48
    clear c48
    by_cases c49 : a1_1.toList = ([] : List UInt8)
    ·rw [if_pos c49] at H
     have c49b0 : (a1_1.toList == ([] : List UInt8)) = true := sqe1 c49
     try have c49b8 : a1_1.toList.isEmpty = true := by (have h_ := c49b0; (repeat rw [show ∀ z : List UInt8, (z == ([] : List UInt8)) = z.isEmpty from fun z => by cases z <;> rfl] at h_); exact h_)
     have c49b1 : (a1_1.toList != ([] : List UInt8)) = false := sqn0 c49
     clear c49
     obtain ⟨t8, A50, H⟩ := sqD H
     obtain ⟨rfl, rfl, rfl⟩ := sqO3 H
     have := N1.1
     have := N0.1
     have := N4.1
     have := N5.1
     obtain ⟨_, _, _, _⟩ := sqY2 B2
     have := N2.1
     have := N3.1
     obtain ⟨_, _, _, _⟩ := sqY2 B0
     go_wp2_with (first | ((with_reducible refine sqc 104 rfl ?_); refine sqC (some 47) func104 #[.agg #[.int .i64 a0_0, .int .i64 a0_1], .int .i64 12] ?_; (with_reducible refine (impl_isSmall.calls kj25 a0_0 a0_1 12 t8 _ A50.1).mono ?_); refine sqV fun w56 hb => ?_; replace B0 := sqT B0 hb; replace B2 := sqT B2 hb; replace B9 := sqT B9 hb; replace HB := sqS (sqB3 HB E0 E1 E2) hb; (try clear hb); obtain ⟨_, _, _, _⟩ := sqY2 B9))
     refine sqE g2 31 #[.int .i64 0, .int .i64 1] (Z54 B9) underlying31 ?_
     exact ⟨Z16, sqB3 HB E0 E1 E2⟩
    rw [if_neg c49] at H
    have c49b0 : (a1_1.toList == ([] : List UInt8)) = false := sqe0 c49
    try have c49b8 : a1_1.toList.isEmpty = false := by (have h_ := c49b0; (repeat rw [show ∀ z : List UInt8, (z == ([] : List UInt8)) = z.isEmpty from fun z => by cases z <;> rfl] at h_); exact h_)
    have c49b1 : (a1_1.toList != ([] : List UInt8)) = true := sqn1 c49
    obtain ⟨rfl, rfl, rfl⟩ := sqO3 H
    have := N1.1
    have := N0.1
    have := N4.1
    have := N5.1
    obtain ⟨_, _, _, _⟩ := sqY2 B2
    have := N3.1
    have := N2.1
    obtain ⟨_, _, _, _⟩ := sqY2 B9
    go_wp2
    refine sqE g2 31 #[.int .i64 0, .int .i64 0] (Z54 B9) underlying31 ?_
    exact ⟨Z16, sqB3 HB E0 E1 E2⟩
   rw [if_neg c48] at H
   have c48b0 : (a1_0 == 3) = false := sqe0 c48
   have c48b1 : (a1_0 != 3) = true := sqn1 c48
   obtain ⟨rfl, rfl, rfl⟩ := sqO3 H
   have := N1.1
   have := N0.1
   have := N4.1
   have := N5.1
   obtain ⟨_, _, _, _⟩ := sqY2 B2
   have := N3.1
   have := N2.1
   obtain ⟨_, _, _, _⟩ := sqY2 B9
   go_wp2
   refine sqE g2 31 #[.int .i64 0, .int .i64 0] (Z54 B9) underlying31 ?_
   exact ⟨Z16, sqB3 HB E0 E1 E2⟩

end Go.Proofs.YtofmlbgfcohhoaaGreatDoor.PFnExactDeskSay
