import Derived.Test.YtofmlbgfcohhoaaGreatDoorPFnDeskLinex4
import Derived.Test.YtofmlbgfcohhoaaGreatDoorPFnDeskLinex0
set_option maxHeartbeats 8000000
set_option maxRecDepth 100000
namespace Go.Proofs.YtofmlbgfcohhoaaGreatDoor.PFnDeskLine
open Go.RowKit Go.Proofs.YtofmlbgfcohhoaaGreatDoorW.PrintWords Go.Proofs.YtofmlbgfcohhoaaGreatDoorW.PrintLast Go.Proofs.YtofmlbgfcohhoaaGreatDoorW.PrintMore Go.Proofs.YtofmlbgfcohhoaaGreatDoor.Lib Go.Proofs.Tryz
attribute [local go_sem] max2_int min2_int max_two min_two max_three min_three max_four min_four
set_option linter.unusedVariables false
set_option linter.unusedSimpArgs false

/-! ### impl_fractionText: function 141 -/
def impl_fractionText.f (a0_0 : Int) (a0_1 : Int) : Option (ByteArray) := if a0_1 = 1 then ((strconv_Itoa.f a0_0).bind fun t168 => (some t168)) else ((strconv_Itoa.f a0_0).bind fun t0 => (if t0.size + 1 ≤ 9223372036854775807 then ((strconv_Itoa.f a0_1).bind fun t1 => (if (t0 ++ (⟨#[47]⟩ : ByteArray)).size + t1.size ≤ 9223372036854775807 then (some ((t0 ++ (⟨#[47]⟩ : ByteArray)) ++ t1)) else (none))) else (none)))
def impl_fractionText.T3 : Bool × List (List Nat × List Nat) := (true, [([], []), ([0], [0]), ([1], [1]), ([2], [2]), ([], []), ([4], [4]), ([5, 2], [5]), ([3, 6], [3, 6]), ([7, 6, 0, 1, 2, 3, 4, 5, 6, 7], [7])])
def impl_fractionText.B3 : List Nat := [0, 1, 3, 7, 0, 16, 55, 127, 255]
theorem impl_fractionText.tab3 : rtab .any (opsOf f141 3) = impl_fractionText.T3 := by kernel_rfl
theorem impl_fractionText.bits3 : waitsOk impl_fractionText.T3.2 impl_fractionText.B3 = true := by kernel_rfl
theorem impl_fractionText.calls (a0_0 : Int) (a0_1 : Int) (r : ByteArray) (w : World) (hG : Glob w) (H : impl_fractionText.f a0_0 a0_1 = some r) :
  Calls prog 141 #[.agg #[.int .i64 a0_0, .int .i64 a0_1]] w fun e w' => e = .returned (.string r) ∧ Below w.heap.size w w' := by
 have hu31 := underlying31
 have HB := sqh w
 unfold impl_fractionText.f at H
 by_cases c2 : a0_1 = 1
 ·rw [if_pos c2] at H
  have c2b0 : (a0_1 == 1) = true := sqe1 c2
  have c2b1 : (a0_1 != 1) = false := sqn0 c2
  clear c2
  obtain ⟨t168, A3, H⟩ := sqD H
  obtain rfl := sqo H
  go_enter func141, ntmps141
  go_wp2_with (first | ((with_reducible refine sqd 1 rfl ?_); refine sqBx w (sqB HB) (cs := #[.int .i64 a0_0, .int .i64 a0_1]) (t := 31) ?_; intro g0 hg w4 B0 E0 HB hb; clear hb hg; obtain ⟨_, _, _, _⟩ := sqY2 B0) | ((with_reducible refine sqc 144 rfl ?_); refine sqC (some 8) func144 #[.int .i64 a0_0] ?_; (with_reducible refine (strconv_Itoa.calls a0_0 t168 _ ?sideG A3.1).mono ?_); (case sideG => exact Z6 E0); refine sqV fun w6 hb => ?_; replace B0 := sqT B0 hb; replace HB := sqS (sqB1 HB E0) hb))
  go_ret
  exact ⟨Z5, sqB1 HB E0⟩
 rw [if_neg c2] at H
 have c2b0 : (a0_1 == 1) = false := sqe0 c2
 have c2b1 : (a0_1 != 1) = true := sqn1 c2
 obtain ⟨t0, A7, H⟩ := sqD H
 obtain ⟨c8, H⟩ := sqI H
 have c8b0 := eq_true c8
 have c8b1 : decide (t0.size + 1 ≤ 9223372036854775807) = true := decide_eq_true c8
 try have c8b2 : (9223372036854775807 < t0.size + 1) = False := eq_false (Nat.not_lt.2 c8)
 obtain ⟨t1, A9, H⟩ := sqD H
 obtain ⟨c10, H⟩ := sqI H
 have c0 := eq_true c10
 have c1 : decide ((t0 ++ (⟨#[47]⟩ : ByteArray)).size + t1.size ≤ 9223372036854775807) = true := decide_eq_true c10
 try have c3 : (9223372036854775807 < (t0 ++ (⟨#[47]⟩ : ByteArray)).size + t1.size) = False := eq_false (Nat.not_lt.2 c10)
 try have c4 : (9223372036854775807 < t0.size + 1 + t1.size) = False := by (have h_ := c3; (repeat rw [ByteArray.size_append] at h_); exact h_)
 obtain rfl := sqo H
 go_enter func141, ntmps141
 try go_wp2_with (first | ((with_reducible refine sqd 1 rfl ?_); refine sqBx w (sqB HB) (cs := #[.int .i64 a0_0, .int .i64 a0_1]) (t := 31) ?_; intro g0 hg w0 B0 E0 HB hb; clear hb hg; obtain ⟨_, _, _, _⟩ := sqY2 B0))
 replace B0 := sqa (blk_drew B0.1)
 replace HB := sqa (below_drew1 HB.1)
 refine start_ (n := 9) (S := fun w' => w'.cell? ⟨g0, 0, none⟩ = some (.int .i64 a0_0) ∧ w'.cell? ⟨g0, 1, none⟩ = some (.int .i64 a0_1)) (ds := []) #[false, false, false, false, false, false, false, false, false] (by kernel_rfl) rfl rfl (sqk1 B0) (fun hHeld => ?_); refine with_tabW impl_fractionText.tab3 impl_fractionText.bits3 (fun HT_ HW_ => ?_)
 generalize w0.drew = w1 at B0 HB hHeld ⊢
 refine sqP 0 (some 9) (h := ?_)
 refine sqP 4 (some 13) (h := ?_)
 refine sqQ 1 (some 10) hHeld (h := ?_)
 refine sqQ 5 (some 14) hHeld (h := ?_)
 refine sq1 2 (some 11) (h := fun K hK => ?_)
 refine sqg func144 #[.int .i64 a0_0] ?_
 with_reducible refine (strconv_Itoa.calls a0_0 t0 _ ?sideG A7.1).mono ?_
 (case sideG => exact Z6 E0)
 rintro e w2 ⟨rfl, hb⟩
 refine ⟨_, rfl, ?_⟩
 replace B0 := sqT B0 hb
 replace HB := sqS (sqB1 HB E0) hb
 refine hK.out _ _ (sqk1 B0) (fun hHeld => ?_)
 clear hK K
 refine sqN (some 11) ?_
 refine sqP 3 (some 12) (h := ?_)
 refine sq1 6 (some 15) (h := fun K hK => ?_)
 refine sqg func144 #[.int .i64 a0_1] ?_
 with_reducible refine (strconv_Itoa.calls a0_1 t1 _ ?sideG A9.1).mono ?_
 (case sideG => exact Z6 E0)
 rintro e w3 ⟨rfl, hb⟩
 refine ⟨_, rfl, ?_⟩
 replace B0 := sqT B0 hb
 replace HB := sqS (sqB1 HB E0) hb
 refine hK.out _ _ (sqk1 B0) (fun hHeld => ?_)
 clear hK K
 refine sqN (some 15) ?_
 refine sqP 7 (some 16) (h := ?_)
 refine sqP 8 (some 2) (h := ?_)
 refine done_ (done_of HT_.out (by kernel_rfl)) ?_
 try go_wp2
 go_ret
 exact ⟨Z5, sqB1 HB E0⟩

-- given: function 151 (strconv_Atoi)

/-! ### impl_ReadFraction: function 126 -/
def impl_ReadFraction.j0 : Nat → ByteArray → Int → Option Int → Int → Option (Int × Int × Bool)
 | 0, _, _, _, _ => none
 | k + 1, x0, x7, x8, x9 => if x8.isNone = true then ((impl_isFraction.f k x7 x9).bind fun t0 => (if t0 = true then ((impl_fractionText.f x7 x9).bind fun t1 => (if t1.toList = x0.toList then (some (x7, x9, true)) else (some (0, 0, false)))) else (some (0, 0, false)))) else (some (0, 0, false))
def impl_ReadFraction.f (k : Nat) (a0 : ByteArray) : Option (Int × Int × Bool) := (strings_Cut.f a0 (⟨#[47]⟩ : ByteArray)).bind fun bt0 => ((strconv_Atoi.f bt0.1).bind fun bt1 => (if bt0.2.2 = true then ((strconv_Atoi.f bt0.2.1).bind fun bt2 => (if bt2.2.isNone = true then (impl_ReadFraction.j0 k a0 bt1.1 bt1.2 bt2.1) else (some (0, 0, false)))) else (impl_ReadFraction.j0 k a0 bt1.1 bt1.2 1)))
abbrev impl_ReadFraction.M (k : Nat) : Prop := (∀ y0 y1 y2 y3, LeO (impl_ReadFraction.j0 k y0 y1 y2 y3) (impl_ReadFraction.j0 (k + 1) y0 y1 y2 y3))
theorem impl_ReadFraction.mono_t : ∀ k, impl_ReadFraction.M k → impl_ReadFraction.M (k + 1) ∧ ∀ a0, LeO (impl_ReadFraction.f k a0) (impl_ReadFraction.f (k + 1) a0) := by
  rintro k ih0
  refine ⟨?_, ?_⟩ <;> (try unfold impl_ReadFraction.M) <;> intros <;> (first | unfold impl_ReadFraction.j0 | unfold impl_ReadFraction.f) <;> repeat' (with_reducible first | exact ih0 _ _ _ _ | exact impl_isFraction.mono _ _ _ | exact LeO.refl _ | exact LeO.none _ | refine LeO.ite ?_ ?_ | refine LeO.bind ?_ fun _ => ?_)
theorem impl_ReadFraction.mono_l : ∀ k, impl_ReadFraction.M k
 | 0 => fun _ _ _ _ r h => by simp [impl_ReadFraction.j0] at h
 | k + 1 => (impl_ReadFraction.mono_t k (impl_ReadFraction.mono_l k)).1
theorem impl_ReadFraction.mono a0 k : LeO (impl_ReadFraction.f k a0) (impl_ReadFraction.f (k + 1) a0) := (impl_ReadFraction.mono_t k (impl_ReadFraction.mono_l k)).2 a0
theorem impl_ReadFraction.calls (k : Nat) (a0 : ByteArray) (r1 : Int) (r2 : Int) (r3 : Bool) (w : World) (hG : Glob w) (H : impl_ReadFraction.f k a0 = some (r1, r2, r3)) :
  Calls prog 126 #[.string a0] w fun e w' => e = .returned (.tuple #[.agg #[.int .i64 r1, .int .i64 r2], .bool r3]) ∧ Below w.heap.size w w' := by
 have hu31 := underlying31
 have hu150 := underlying150
 have HB := sqh w
 unfold impl_ReadFraction.f at H
 obtain ⟨⟨t0, t173, t1⟩, A2, H⟩ := sqD H
 try dsimp only at H
 obtain ⟨⟨t175, t2⟩, A3, H⟩ := sqD H
 try dsimp only at H
 have HC4 := sqa H
 clear H
 go_enter func126, ntmps126
 go_upto_if 24 with (first | ((with_reducible refine sqd 2 rfl ?_); refine sqBx w (sqB HB) (cs := #[.int .i64 0, .int .i64 0]) (t := 31) ?_; intro g0 hg w5 B0 E0 HB hb; clear hb hg) | ((with_reducible refine sqc 84 rfl ?_); refine sqC (some 15) func84 #[.string a0, .string (⟨#[47]⟩ : ByteArray)] ?_; (with_reducible refine (strings_Cut.calls a0 (⟨#[47]⟩ : ByteArray) t0 t173 t1 _ ?sideG A2.1).mono ?_); (case sideG => exact Z6 E0); refine sqV fun w6 hb => ?_; replace B0 := sqT B0 hb; replace HB := sqS (sqB1 HB E0) hb) | ((with_reducible refine sqc 151 rfl ?_); refine sqC (some 21) func151 #[.string t0] ?_; (with_reducible refine (strconv_Atoi.calls t0 t175 t2 _ ?sideG A3.1).mono ?_); (case sideG => exact Z6 E0); rintro e w7 ⟨q_t0, hq_t0, rfl, hb⟩; refine ⟨_, rfl, ?_⟩; replace B0 := sqT B0 hb; replace HB := sqS (sqB1 HB E0) hb; (try simp only [errP_none, errP_some])))
 (try simp only [Act.put, List.setIfInBounds_toArray, List.set_cons_zero, List.set_cons_succ])
 go_cut [9] (fun v9 wc => ∃ (kq : Nat) (x9_3 : Int) (x172000_3 : Int) (x172001_3 : Int), v9 = .int .i64 x9_3 ∧ Aside0 (impl_ReadFraction.j0 kq a0 t175 t2 x9_3 = some (r1, r2, r3)) ∧ Aside0 (kq ≤ k) ∧ Aside0 (wc.heap[g0]? = some (.cells #[.int .i64 x172000_3, .int .i64 x172001_3] 31 (0, 0))) ∧ Aside0 (Below w.heap.size w wc))
 case first =>
  have H := HC4.1
  clear HC4
  by_cases c8 : t1 = true
  ·subst c8
   rw [if_pos rfl] at H
   obtain ⟨⟨t3, t4⟩, A9, H⟩ := sqD H
   try dsimp only at H
   rcases t4 with _ | q0
   ·have H1 : (impl_ReadFraction.j0 k a0 t175 t2 t3) = some (r1, r2, r3) := by rw [if_pos (show (none : Option Int).isNone = true by rfl)] at H; exact H
    clear H
    have H := H1
    clear H1
    try simp only [errP_none, errP_some]
    have H' := sqa H
    clear H
    go_wp2_with (first | ((with_reducible refine sqc 151 rfl ?_); refine sqC (some 27) func151 #[.string t173] ?_; (with_reducible refine (strconv_Atoi.calls t173 t3 none _ ?sideG A9.1).mono ?_); (case sideG => exact Z6 E0); rintro e w0 ⟨qe, hqe, rfl, hb⟩; obtain rfl := isNone_none hqe; refine ⟨_, rfl, ?_⟩; replace B0 := sqT B0 hb; replace HB := sqS (sqB1 HB E0) hb; (try simp only [errP_none, errP_some])))
    go_meet
    case rel => exact ⟨_, (t3), (0), (0), Z1, H', ⟨Z11⟩, ⟨sqK B0⟩, ⟨sqB1 HB E0⟩⟩
   ·have H1 : (some (0, 0, false)) = some (r1, r2, r3) := by rw [if_neg (show ¬ (some q0).isNone = true by simp)] at H; exact H
    clear H
    have H := H1
    clear H1
    try simp only [errP_none, errP_some]
    obtain ⟨rfl, rfl, rfl⟩ := sqO3 H
    go_wp2_with (first | ((with_reducible refine sqc 151 rfl ?_); refine sqC (some 27) func151 #[.string t173] ?_; (with_reducible refine (strconv_Atoi.calls t173 t3 (some q0) _ ?sideG A9.1).mono ?_); (case sideG => exact Z6 E0); rintro e w1 ⟨qe, hqe, rfl, hb⟩; obtain ⟨qz, rfl⟩ := isNone_some hqe; refine ⟨_, rfl, ?_⟩; replace B0 := sqT B0 hb; replace HB := sqS (sqB1 HB E0) hb; (try simp only [errP_none, errP_some]); obtain ⟨_, _, _, _⟩ := sqY2 B0))
    refine sqE g0 31 #[.int .i64 0, .int .i64 0] (Z12 B0) underlying31 ?_
    exact ⟨Z5, sqB1 HB E0⟩
  obtain rfl := sqb c8
  rw [if_neg sqF] at H
  have H' := sqa H
  clear H
  go_wp2
  go_meet
  case rel => exact ⟨_, (1), (0), (0), Z1, H', ⟨Z11⟩, ⟨sqK B0⟩, ⟨sqB1 HB E0⟩⟩
 case rest =>
  clear HC4
  obtain ⟨kq, x9_3, x172000_3, x172001_3, rfl, HA, HJ3, B0, HB⟩ := hcut
  cases kq with
  | zero => exact absurd HA.out (by simp [impl_ReadFraction.j0])
  | succ kj3 =>
   have H := HA.out
   clear HA
   simp only [impl_ReadFraction.j0] at H
   rcases t2 with _ | q1
   ·obtain rfl := isNone_none hq_t0
    have H1 : ((impl_isFraction.f kj3 t175 x9_3).bind fun t5 => (if t5 = true then ((impl_fractionText.f t175 x9_3).bind fun t6 => (if t6.toList = a0.toList then (some (t175, x9_3, true)) else (some (0, 0, false)))) else (some (0, 0, false)))) = some (r1, r2, r3) := by rw [if_pos (show (none : Option Int).isNone = true by rfl)] at H; exact H
    clear H
    have H := H1
    clear H1
    try simp only [errP_none, errP_some]
    obtain ⟨t5, A0, H⟩ := sqD H
    by_cases c0 : t5 = true
    ·subst c0
     rw [if_pos rfl] at H
     obtain ⟨t6, A1, H⟩ := sqD H
     by_cases c1 : t6.toList = a0.toList
     ·rw [if_pos c1] at H
      have c2 := sqe1 c1
      have c3 := sqn0 c1
      clear c1
      obtain ⟨rfl, rfl, rfl⟩ := sqO3 H
      go_wp2_with (first | ((with_reducible refine sqd 12 rfl ?_); refine sqBx w (sqB1 HB E0) (cs := #[.int .i64 0, .int .i64 0]) (t := 31) ?_; intro g1 hg w2 B2 E1 HB hb; obtain ⟨N0, N1⟩ := sqM hg B0; replace B0 := sqT B0 hb; clear hb hg; have := N1.1; have := N0.1; obtain ⟨_, _, _, _⟩ := sqY2 B2) | (go_at_call 70; (with_reducible refine (impl_isFraction.calls kj3 t175 x9_3 true _ A0.1).mono ?_); rintro e w3 ⟨rfl, hb⟩; replace B0 := sqH N0 B0 hb; replace B2 := sqa (blk_below (g := g1) (o := .cells #[.int .i64 t175, .int .i64 x9_3] 31 (0, 0)) (Z94 B2) hb); replace HB := sqS (sqB2 HB E0 E1) hb; obtain ⟨_, _, _, _⟩ := sqY2 B2) | (go_at_call 141; (with_reducible refine (impl_fractionText.calls t175 x9_3 t6 _ ?sideG A1.1).mono ?_); (case sideG => exact Z10 E0 E1); rintro e w4 ⟨rfl, hb⟩; replace B0 := sqT B0 hb; replace B2 := sqT B2 hb; replace HB := sqS (sqB2 HB E0 E1) hb; obtain ⟨_, _, _, _⟩ := sqY2 B2; obtain ⟨_, _, _, _⟩ := sqY2 B0))
      refine sqE g0 31 #[.int .i64 t175, .int .i64 x9_3] (by refine sqPut (cs := #[.int .i64 t175, .int .i64 x172001_3]) ?_ 1; refine sqPut (cs := #[.int .i64 x172000_3, .int .i64 x172001_3]) ?_ 0; exact sqK B0) underlying31 ?_
      exact ⟨Z5, sqB2 HB E0 E1⟩
     rw [if_neg c1] at H
     have c2 := sqe0 c1
     have c3 := sqn1 c1
     obtain ⟨rfl, rfl, rfl⟩ := sqO3 H
     go_wp2_with (first | ((with_reducible refine sqd 12 rfl ?_); refine sqBx w (sqB1 HB E0) (cs := #[.int .i64 0, .int .i64 0]) (t := 31) ?_; intro g1 hg w8 B2 E1 HB hb; obtain ⟨N0, N1⟩ := sqM hg B0; replace B0 := sqT B0 hb; clear hb hg; have := N1.1; have := N0.1; obtain ⟨_, _, _, _⟩ := sqY2 B2) | (go_at_call 70; (with_reducible refine (impl_isFraction.calls kj3 t175 x9_3 true _ A0.1).mono ?_); rintro e w9 ⟨rfl, hb⟩; replace B0 := sqH N0 B0 hb; replace B2 := sqa (blk_below (g := g1) (o := .cells #[.int .i64 t175, .int .i64 x9_3] 31 (0, 0)) (Z94 B2) hb); replace HB := sqS (sqB2 HB E0 E1) hb; obtain ⟨_, _, _, _⟩ := sqY2 B2) | (go_at_call 141; (with_reducible refine (impl_fractionText.calls t175 x9_3 t6 _ ?sideG A1.1).mono ?_); (case sideG => exact Z10 E0 E1); rintro e w30 ⟨rfl, hb⟩; replace B0 := sqT B0 hb; replace B2 := sqT B2 hb; replace HB := sqS (sqB2 HB E0 E1) hb; obtain ⟨_, _, _, _⟩ := sqY2 B0))
     refine sqE g0 31 #[.int .i64 0, .int .i64 0] (Z95 B0) underlying31 ?_
     exact ⟨Z5, sqB2 HB E0 E1⟩
    obtain rfl := sqb c0
    rw [if_neg sqF] at H
    obtain ⟨rfl, rfl, rfl⟩ := sqO3 H
    go_wp2_with (first | ((with_reducible refine sqd 12 rfl ?_); refine sqBx w (sqB1 HB E0) (cs := #[.int .i64 0, .int .i64 0]) (t := 31) ?_; intro g1 hg w32 B2 E1 HB hb; obtain ⟨N0, N1⟩ := sqM hg B0; replace B0 := sqT B0 hb; clear hb hg; have := N1.1; have := N0.1; obtain ⟨_, _, _, _⟩ := sqY2 B2) | (go_at_call 70; (with_reducible refine (impl_isFraction.calls kj3 t175 x9_3 false _ A0.1).mono ?_); rintro e w35 ⟨rfl, hb⟩; replace B0 := sqH N0 B0 hb; replace B2 := sqa (blk_below (g := g1) (o := .cells #[.int .i64 t175, .int .i64 x9_3] 31 (0, 0)) (Z94 B2) hb); replace HB := sqS (sqB2 HB E0 E1) hb; obtain ⟨_, _, _, _⟩ := sqY2 B0))
    refine sqE g0 31 #[.int .i64 0, .int .i64 0] (Z95 B0) underlying31 ?_
    exact ⟨Z5, sqB2 HB E0 E1⟩
   ·obtain ⟨qz_, rfl⟩ := isNone_some hq_t0
    have H1 : (some (0, 0, false)) = some (r1, r2, r3) := by rw [if_neg (show ¬ (some q1).isNone = true by simp)] at H; exact H
    clear H
    have H := H1
    clear H1
    try simp only [errP_none, errP_some]
    obtain ⟨rfl, rfl, rfl⟩ := sqO3 H
    go_wp2_with (first | ((with_reducible refine sqd 12 rfl ?_); refine sqBx w (sqB1 HB E0) (cs := #[.int .i64 0, .int .i64 0]) (t := 31) ?_; intro g1 hg w37 B2 E1 HB hb; obtain ⟨N0, N1⟩ := sqM hg B0; replace B0 := sqT B0 hb; clear hb hg; have := N1.1; have := N0.1; obtain ⟨_, _, _, _⟩ := sqY2 B2; obtain ⟨_, _, _, _⟩ := sqY2 B0))
    refine sqE g0 31 #[.int .i64 0, .int .i64 0] (by refine sqPut (cs := #[.int .i64 0, .int .i64 x172001_3]) ?_ 1; refine sqPut (cs := #[.int .i64 x172000_3, .int .i64 x172001_3]) ?_ 0; refine sqFar ?_ N0; refine sqFar ?_ N0; exact sqK B0) underlying31 ?_
    exact ⟨Z5, sqB2 HB E0 E1⟩

/-! ### impl_mirrored: function 138 -/
def impl_mirrored.f (a0_0 : Int) (a0_1 : Int) : Option (Int × Int) := if a0_1 > 0 then (some (wrap64 (-a0_0), a0_1)) else (some (a0_0, a0_1))
theorem impl_mirrored.calls (a0_0 : Int) (a0_1 : Int) (r1 : Int) (r2 : Int) (w : World) (H : impl_mirrored.f a0_0 a0_1 = some (r1, r2)) :
  Calls prog 138 #[.agg #[.int .i64 a0_0, .int .i64 a0_1]] w fun e w' => e = .returned (.agg #[.int .i64 r1, .int .i64 r2]) ∧ Below w.heap.size w w' := by
 have hu31 := underlying31
 have HB := sqh w
 unfold impl_mirrored.f at H
 by_cases c2 : a0_1 > 0
 ·rw [if_pos c2] at H
  have c2b0 : decide (0 < a0_1) = true := decide_eq_true c2
  clear c2
  obtain ⟨rfl, rfl⟩ := sqO2 H
  go_enter func138, ntmps138
  go_wp2_with (first | ((with_reducible refine sqd 1 rfl ?_); refine sqBx w (sqB HB) (cs := #[.int .i64 a0_0, .int .i64 a0_1]) (t := 31) ?_; intro g0 hg w3 B0 E0 HB hb; clear hb hg) | ((with_reducible refine sqd 2 rfl ?_); refine sqBx w (sqB1 HB E0) (cs := #[.int .i64 0, .int .i64 0]) (t := 31) ?_; intro g1 hg w4 B2 E1 HB hb; obtain ⟨N0, N1⟩ := sqM hg B0; replace B0 := sqT B0 hb; clear hb hg; have := N0.1; have := N1.1; obtain ⟨_, _, _, _⟩ := sqY2 B0; obtain ⟨_, _, _, _⟩ := sqY2 B2))
  refine sqEr g1 31 #[.int .i64 (wrap64 (-a0_0)), .int .i64 a0_1] (by refine sqPut (cs := #[.int .i64 (wrap64 (-a0_0)), .int .i64 0]) ?_ 1; refine sqPut (cs := #[.int .i64 0, .int .i64 0]) ?_ 0; refine sqFar ?_ N1; exact sqK B2) underlying31 ?_
  exact ⟨Z5, sqB2 HB E0 E1⟩
 rw [if_neg c2] at H
 have c2b0 : decide (0 < a0_1) = false := decide_eq_false c2
 clear c2
 obtain ⟨rfl, rfl⟩ := sqO2 H
 go_enter func138, ntmps138
 go_wp2_with (first | ((with_reducible refine sqd 1 rfl ?_); refine sqBx w (sqB HB) (cs := #[.int .i64 a0_0, .int .i64 a0_1]) (t := 31) ?_; intro g0 hg w8 B0 E0 HB hb; clear hb hg) | ((with_reducible refine sqd 2 rfl ?_); refine sqBx w (sqB1 HB E0) (cs := #[.int .i64 0, .int .i64 0]) (t := 31) ?_; intro g1 hg w9 B2 E1 HB hb; obtain ⟨N0, N1⟩ := sqM hg B0; replace B0 := sqT B0 hb; clear hb hg; have := N0.1; have := N1.1; obtain ⟨_, _, _, _⟩ := sqY2 B0; obtain ⟨_, _, _, _⟩ := sqY2 B2))
 refine sqEr g1 31 #[.int .i64 a0_0, .int .i64 a0_1] (Z4 B2) underlying31 ?_
 exact ⟨Z5, sqB2 HB E0 E1⟩

/-! ### impl_nextFraction: function 111 -/
def impl_nextFraction.j0 : Nat → Bool → Int → Int → Int → ByteArray → Option (Int × Int × Bool)
 | 0, _, _, _, _, _ => none
 | k + 1, x0, x1, x2, x3, x4 => if x0 = true then ((impl_mirrored.f x1 x2).bind fun bt0 => (some (bt0.1, bt0.2, true))) else (if x3 = 3 then (if x4.toList = ([] : List UInt8) then ((impl_isSmall.f k x1 x2 12).bind fun t0 => (some (0, 1, t0))) else (some (0, 0, false))) else (some (0, 0, false)))
def impl_nextFraction.f (k : Nat) (a0_0 : Int) (a0_1 : Int) (a1_0 : Int) (a1_1 : ByteArray) : Option (Int × Int × Bool) := if a1_0 = 0 then ((impl_DancedFrom.f k a0_0 a0_1 a1_1).bind fun bt0 => (some (bt0.1, bt0.2.1, bt0.2.2))) else (if a1_0 = 1 then ((impl_ReadFraction.f k a1_1).bind fun bt1 => (some (bt1.1, bt1.2.1, bt1.2.2))) else (if a1_0 = 2 then (impl_nextFraction.j0 k (a1_1.toList == ([] : List UInt8)) a0_0 a0_1 a1_0 a1_1) else (impl_nextFraction.j0 k false a0_0 a0_1 a1_0 a1_1)))
abbrev impl_nextFraction.M (k : Nat) : Prop := (∀ y0 y1 y2 y3 y4, LeO (impl_nextFraction.j0 k y0 y1 y2 y3 y4) (impl_nextFraction.j0 (k + 1) y0 y1 y2 y3 y4))
theorem impl_nextFraction.mono_t : ∀ k, impl_nextFraction.M k → impl_nextFraction.M (k + 1) ∧ ∀ a0 a1 a2 a3, LeO (impl_nextFraction.f k a0 a1 a2 a3) (impl_nextFraction.f (k + 1) a0 a1 a2 a3) := by
  rintro k ih0
  refine ⟨?_, ?_⟩ <;> (try unfold impl_nextFraction.M) <;> intros <;> (first | unfold impl_nextFraction.j0 | unfold impl_nextFraction.f) <;> repeat' (with_reducible first | exact ih0 _ _ _ _ _ | exact impl_DancedFrom.mono _ _ _ _ | exact impl_ReadFraction.mono _ _ | exact impl_isSmall.mono _ _ _ _ | exact LeO.refl _ | exact LeO.none _ | refine LeO.ite ?_ ?_ | refine LeO.bind ?_ fun _ => ?_)
theorem impl_nextFraction.mono_l : ∀ k, impl_nextFraction.M k
 | 0 => fun _ _ _ _ _ r h => by simp [impl_nextFraction.j0] at h
 | k + 1 => (impl_nextFraction.mono_t k (impl_nextFraction.mono_l k)).1
theorem impl_nextFraction.mono a0 a1 a2 a3 k : LeO (impl_nextFraction.f k a0 a1 a2 a3) (impl_nextFraction.f (k + 1) a0 a1 a2 a3) := (impl_nextFraction.mono_t k (impl_nextFraction.mono_l k)).2 a0 a1 a2 a3
theorem impl_nextFraction.calls (k : Nat) (a0_0 : Int) (a0_1 : Int) (a1_0 : Int) (a1_1 : ByteArray) (r1 : Int) (r2 : Int) (r3 : Bool) (w : World) (hG : Glob w) (H : impl_nextFraction.f k a0_0 a0_1 a1_0 a1_1 = some (r1, r2, r3)) :
  Calls prog 111 #[.agg #[.int .i64 a0_0, .int .i64 a0_1], .agg #[.int .i64 a1_0, .string a1_1]] w fun e w' => e = .returned (.tuple #[.agg #[.int .i64 r1, .int .i64 r2], .bool r3]) ∧ Below w.heap.size w w' := by
 have hu31 := underlying31
 have hu38 := underlying38
 have HB := sqh w
 unfold impl_nextFraction.f at H
 by_cases c3 : a1_0 = 0
 ·rw [if_pos c3] at H
  have c3b0 : (a1_0 == 0) = true := sqe1 c3
  have c3b1 : (a1_0 != 0) = false := sqn0 c3
  clear c3
  obtain ⟨⟨t0, t1, t2⟩, A4, H⟩ := sqD H
  try dsimp only at H
  obtain ⟨rfl, rfl, rfl⟩ := sqO3 H
  go_enter func111, ntmps111
  go_wp2_with (first | ((with_reducible refine sqd 2 rfl ?_); refine sqBx w (sqB HB) (cs := #[.int .i64 a0_0, .int .i64 a0_1]) (t := 31) ?_; intro g0 hg w5 B0 E0 HB hb; clear hb hg) | ((with_reducible refine sqd 3 rfl ?_); refine sqBx w (sqB1 HB E0) (cs := #[.int .i64 a1_0, .string a1_1]) (t := 38) ?_; intro g1 hg w6 B2 E1 HB hb; obtain ⟨N0, N1⟩ := sqM hg B0; replace B0 := sqT B0 hb; clear hb hg) | ((with_reducible refine sqd 4 rfl ?_); refine sqBx w (sqB2 HB E0 E1) (cs := #[.int .i64 0, .int .i64 0]) (t := 31) ?_; intro g2 hg w7 B8 E2 HB hb; obtain ⟨N2, N3⟩ := sqM hg B0; replace B0 := sqT B0 hb; obtain ⟨N4, N5⟩ := sqM hg B2; replace B2 := sqT B2 hb; clear hb hg; have := N1.1; have := N0.1; have := N4.1; have := N5.1; obtain ⟨_, _, _, _⟩ := sqY2 B2; have := N2.1; have := N3.1; obtain ⟨_, _, _, _⟩ := sqY2 B0) | ((with_reducible refine sqc 25 rfl ?_); refine sqC (some 13) func25 #[.agg #[.int .i64 a0_0, .int .i64 a0_1], .string a1_1] ?_; (with_reducible refine (impl_DancedFrom.calls k a0_0 a0_1 a1_1 t0 t1 t2 _ A4.1).mono ?_); refine sqV fun w0 hb => ?_; replace B0 := sqT B0 hb; replace B2 := sqT B2 hb; replace B8 := sqT B8 hb; replace HB := sqS (sqB3 HB E0 E1 E2) hb; obtain ⟨_, _, _, _⟩ := sqY2 B8))
  refine sqE g2 31 #[.int .i64 t0, .int .i64 t1] (by refine sqPut (cs := #[.int .i64 t0, .int .i64 0]) ?_ 1; refine sqPut (cs := #[.int .i64 0, .int .i64 0]) ?_ 0; exact sqK B8) underlying31 ?_
  exact ⟨Z5, sqB3 HB E0 E1 E2⟩
 rw [if_neg c3] at H
 have c3b0 : (a1_0 == 0) = false := sqe0 c3
 have c3b1 : (a1_0 != 0) = true := sqn1 c3
 by_cases c0 : a1_0 = 1
 ·rw [if_pos c0] at H
  have c1 := sqe1 c0
  have c2 := sqn0 c0
  clear c0
  obtain ⟨⟨t3, t4, t5⟩, A0, H⟩ := sqD H
  try dsimp only at H
  obtain ⟨rfl, rfl, rfl⟩ := sqO3 H
  go_enter func111, ntmps111
  go_wp2_with (first | ((with_reducible refine sqd 2 rfl ?_); refine sqBx w (sqB HB) (cs := #[.int .i64 a0_0, .int .i64 a0_1]) (t := 31) ?_; intro g0 hg w1 B0 E0 HB hb; clear hb hg) | ((with_reducible refine sqd 3 rfl ?_); refine sqBx w (sqB1 HB E0) (cs := #[.int .i64 a1_0, .string a1_1]) (t := 38) ?_; intro g1 hg w2 B2 E1 HB hb; obtain ⟨N0, N1⟩ := sqM hg B0; replace B0 := sqT B0 hb; clear hb hg) | ((with_reducible refine sqd 4 rfl ?_); refine sqBx w (sqB2 HB E0 E1) (cs := #[.int .i64 0, .int .i64 0]) (t := 31) ?_; intro g2 hg w3 B8 E2 HB hb; obtain ⟨N2, N3⟩ := sqM hg B0; replace B0 := sqT B0 hb; obtain ⟨N4, N5⟩ := sqM hg B2; replace B2 := sqT B2 hb; clear hb hg; have := N1.1; have := N0.1; have := N4.1; have := N5.1; obtain ⟨_, _, _, _⟩ := sqY2 B2) | ((with_reducible refine sqc 126 rfl ?_); refine sqC (some 22) func126 #[.string a1_1] ?_; (with_reducible refine (impl_ReadFraction.calls k a1_1 t3 t4 t5 _ ?sideG A0.1).mono ?_); (case sideG => exact Glob.below hG (sqB3 HB E0 E1 E2)); refine sqV fun w4 hb => ?_; replace B0 := sqT B0 hb; replace B2 := sqT B2 hb; replace B8 := sqT B8 hb; replace HB := sqS (sqB3 HB E0 E1 E2) hb; have := N3.1; have := N2.1; obtain ⟨_, _, _, _⟩ := sqY2 B8))
  refine sqE g2 31 #[.int .i64 t3, .int .i64 t4] (by refine sqPut (cs := #[.int .i64 t3, .int .i64 0]) ?_ 1; refine sqPut (cs := #[.int .i64 0, .int .i64 0]) ?_ 0; exact sqK B8) underlying31 ?_
  exact ⟨Z5, sqB3 HB E0 E1 E2⟩
 rw [if_neg c0] at H
 have c1 := sqe0 c0
 have c2 := sqn1 c0
 have HC0 := sqa H
 clear H
 go_enter func111, ntmps111
 go_upto_region 5 with (first | ((with_reducible refine sqd 2 rfl ?_); refine sqBx w (sqB HB) (cs := #[.int .i64 a0_0, .int .i64 a0_1]) (t := 31) ?_; intro g0 hg w8 B0 E0 HB hb; clear hb hg) | ((with_reducible refine sqd 3 rfl ?_); refine sqBx w (sqB1 HB E0) (cs := #[.int .i64 a1_0, .string a1_1]) (t := 38) ?_; intro g1 hg w9 B2 E1 HB hb; obtain ⟨N0, N1⟩ := sqM hg B0; replace B0 := sqT B0 hb; clear hb hg) | ((with_reducible refine sqd 4 rfl ?_); refine sqBx w (sqB2 HB E0 E1) (cs := #[.int .i64 0, .int .i64 0]) (t := 31) ?_; intro g2 hg w29 B8 E2 HB hb; obtain ⟨N2, N3⟩ := sqM hg B0; replace B0 := sqT B0 hb; obtain ⟨N4, N5⟩ := sqM hg B2; replace B2 := sqT B2 hb; clear hb hg; have := N1.1; have := N0.1; have := N4.1; have := N5.1; obtain ⟨_, _, _, _⟩ := sqY2 B2))
 (try simp only [Act.put, List.setIfInBounds_toArray, List.set_cons_zero, List.set_cons_succ])
 go_cut [25] (fun v0 wc => ∃ (kq : Nat) (x0 : Bool), v0 = .bool x0 ∧ Aside0 (impl_nextFraction.j0 kq x0 a0_0 a0_1 a1_0 a1_1 = some (r1, r2, r3)) ∧ Aside0 (kq ≤ k) ∧ Aside0 (wc.heap[g0]? = some (.cells #[.int .i64 a0_0, .int .i64 a0_1] 31 (0, 0))) ∧ Aside0 (wc.heap[g1]? = some (.cells #[.int .i64 a1_0, .string a1_1] 38 (0, 0))) ∧ Aside0 (wc.heap[g2]? = some (.cells #[.int .i64 0, .int .i64 0] 31 (0, 0))) ∧ Aside0 (Below w.heap.size w wc))
 case first =>
  have H := HC0.1
  clear HC0
  by_cases c4 : a1_0 = 2
  ·rw [if_pos c4] at H
   have c5 := sqe1 c4
   have c6 := sqn0 c4
   clear c4
   (first | rw [c5] | (simp only [i64_w, i32_w]; rw [c5]) | skip)
   have H' := sqa H
   clear H
   have := N1.1
   have := N0.1
   have := N4.1
   have := N5.1
   obtain ⟨_, _, _, _⟩ := sqY2 B2
   go_wp2
   go_meet
   case rel => exact ⟨_, ((a1_1.toList == ([] : List UInt8))), Z1, H', ⟨Z11⟩, ⟨sqK B0⟩, ⟨sqK B2⟩, ⟨sqK B8⟩, ⟨sqB3 HB E0 E1 E2⟩⟩
  rw [if_neg c4] at H
  have c5 := sqe0 c4
  have c6 := sqn1 c4
  (first | rw [c5] | (simp only [i64_w, i32_w]; rw [c5]) | skip)
  have H' := sqa H
  clear H
  have := N1.1
  have := N0.1
  have := N4.1
  have := N5.1
  obtain ⟨_, _, _, _⟩ := sqY2 B2
  go_wp2
  go_meet
  case rel => exact ⟨_, (false), Z1, H', ⟨Z11⟩, ⟨sqK B0⟩, ⟨sqK B2⟩, ⟨sqK B8⟩, ⟨sqB3 HB E0 E1 E2⟩⟩
 case rest =>
  clear HC0
  obtain ⟨kq, x0, rfl, HA, HJ0, B0, B2, B8, HB⟩ := hcut
  cases kq with
  | zero => exact absurd HA.out (by simp [impl_nextFraction.j0])
  | succ kj0 =>
   have H := HA.out
   clear HA
   simp only [impl_nextFraction.j0] at H
   by_cases c7 : x0 = true
   ·subst c7
    rw [if_pos rfl] at H
    obtain ⟨⟨t6, t7⟩, A1, H⟩ := sqD H
    try dsimp only at H
    obtain ⟨rfl, rfl, rfl⟩ := sqO3 H
    have := N0.1
    have := N1.1
    have := N2.1
    have := N3.1
    obtain ⟨_, _, _, _⟩ := sqY2 B0
    go_wp2_with (first | ((with_reducible refine sqc 138 rfl ?_); refine sqC (some 35) func138 #[.agg #[.int .i64 a0_0, .int .i64 a0_1]] ?_; (with_reducible refine (impl_mirrored.calls a0_0 a0_1 t6 t7 _ A1.1).mono ?_); refine sqV fun w45 hb => ?_; replace B0 := sqT B0 hb; replace B2 := sqT B2 hb; replace B8 := sqT B8 hb; replace HB := sqS (sqB3 HB E0 E1 E2) hb; have := N5.1; have := N4.1; obtain ⟨_, _, _, _⟩ := sqY2 B8))
    refine sqE g2 31 #[.int .i64 t6, .int .i64 t7] (by refine sqPut (cs := #[.int .i64 t6, .int .i64 0]) ?_ 1; refine sqPut (cs := #[.int .i64 0, .int .i64 0]) ?_ 0; exact sqK B8) underlying31 ?_
    exact ⟨Z5, sqB3 HB E0 E1 E2⟩
   obtain rfl := sqb c7
   rw [if_neg sqF] at H
   by_cases c8 : a1_0 = 3
   ·rw [if_pos c8] at H
    have c9 := sqe1 c8
    have c10 := sqn0 c8
    clear c8
    by_cases c49 : a1_1.toList = ([] : List UInt8)
    ·rw [if_pos c49] at H
     have c12 := sqe1 c49
     try have c13 : a1_1.toList.isEmpty = true := by (have h_ := c12; (repeat rw [sqy] at h_); exact h_)
     have c14 := sqn0 c49
     clear c49
     obtain ⟨t8, A2, H⟩ := sqD H
     obtain ⟨rfl, rfl, rfl⟩ := sqO3 H
     have := N1.1
     have := N0.1
     have := N4.1
     have := N5.1
     obtain ⟨_, _, _, _⟩ := sqY2 B2
     have := N2.1
     have := N3.1
     obtain ⟨_, _, _, _⟩ := sqY2 B0
     go_wp2_with (first | ((with_reducible refine sqc 104 rfl ?_); refine sqC (some 47) func104 #[.agg #[.int .i64 a0_0, .int .i64 a0_1], .int .i64 12] ?_; (with_reducible refine (impl_isSmall.calls kj0 a0_0 a0_1 12 t8 _ A2.1).mono ?_); refine sqV fun w56 hb => ?_; replace B0 := sqT B0 hb; replace B2 := sqT B2 hb; replace B8 := sqT B8 hb; replace HB := sqS (sqB3 HB E0 E1 E2) hb; obtain ⟨_, _, _, _⟩ := sqY2 B8))
     refine sqE g2 31 #[.int .i64 0, .int .i64 1] (Z12 B8) underlying31 ?_
     exact ⟨Z5, sqB3 HB E0 E1 E2⟩
    rw [if_neg c49] at H
    have c12 := sqe0 c49
    try have c13 : a1_1.toList.isEmpty = false := by (have h_ := c12; (repeat rw [sqy] at h_); exact h_)
    have c14 := sqn1 c49
    obtain ⟨rfl, rfl, rfl⟩ := sqO3 H
    have := N1.1
    have := N0.1
    have := N4.1
    have := N5.1
    obtain ⟨_, _, _, _⟩ := sqY2 B2
    have := N3.1
    have := N2.1
    obtain ⟨_, _, _, _⟩ := sqY2 B8
    go_wp2
    refine sqE g2 31 #[.int .i64 0, .int .i64 0] (Z12 B8) underlying31 ?_
    exact ⟨Z5, sqB3 HB E0 E1 E2⟩
   rw [if_neg c8] at H
   have c9 := sqe0 c8
   have c10 := sqn1 c8
   obtain ⟨rfl, rfl, rfl⟩ := sqO3 H
   have := N1.1
   have := N0.1
   have := N4.1
   have := N5.1
   obtain ⟨_, _, _, _⟩ := sqY2 B2
   have := N3.1
   have := N2.1
   obtain ⟨_, _, _, _⟩ := sqY2 B8
   go_wp2
   refine sqE g2 31 #[.int .i64 0, .int .i64 0] (Z12 B8) underlying31 ?_
   exact ⟨Z5, sqB3 HB E0 E1 E2⟩
section
attribute [local go_sem high] eqA31 eqA38
/-! ### impl_deskDo: function 61 -/
def impl_deskDo.j0 : Nat → Bool → Int → Int → List (S31) → Int → Int → Option (Int × Int × (List (S31)) × Bool)
 | 0, _, _, _, _, _, _ => none
 | k + 1, x0, x1, x2, x3, x4, x5 => if x0 = true then (some (x1, x2, x3, false)) else (if x3.length < 8796093022208 then ((some (x3 ++ [(⟨x1, x2⟩ : S31)] : List (S31))).bind fun y0 => (if (y0.length : Int) > 8 then (if 1 ≤ (y0.length : Int) then ((impl_copyDesk.f x4 x5 (y0.drop (1 : Int).toNat)).bind fun bt0 => (some (bt0.1, bt0.2.1, bt0.2.2, true))) else (none)) else ((impl_copyDesk.f x4 x5 y0).bind fun bt1 => (some (bt1.1, bt1.2.1, bt1.2.2, true))))) else (none))
def impl_deskDo.f (k : Nat) (a0_0 : Int) (a0_1 : Int) (l0_2 : List (S31)) (a1_0 : Int) (a1_1 : ByteArray) : Option (Int × Int × (List (S31)) × Bool) := (impl_copyDesk.f a0_0 a0_1 l0_2).bind fun bt0 => (if (a1_0 == 4 && (a1_1.toList == ([] : List UInt8))) = true then (if (wrap64 ((bt0.2.2.length : Int) - 1)) < 0 then (some (bt0.1, bt0.2.1, bt0.2.2, false)) else (if 0 ≤ (wrap64 ((bt0.2.2.length : Int) - 1)) then (if (wrap64 ((bt0.2.2.length : Int) - 1)) < (bt0.2.2.length : Int) then (if (wrap64 ((bt0.2.2.length : Int) - 1)) ≤ (bt0.2.2.length : Int) then ((impl_copyDesk.f ((rd_T31 bt0.2.2 (wrap64 ((bt0.2.2.length : Int) - 1))).f0) ((rd_T31 bt0.2.2 (wrap64 ((bt0.2.2.length : Int) - 1))).f1) (bt0.2.2.take ((wrap64 ((bt0.2.2.length : Int) - 1)) : Int).toNat)).bind fun bt1 => (some (bt1.1, bt1.2.1, bt1.2.2, true))) else (none)) else (none)) else (none))) else ((impl_nextFraction.f k a0_0 a0_1 a1_0 a1_1).bind fun bt2 => (if bt2.2.2 = true then (impl_deskDo.j0 k (bt2.1 == a0_0 && (bt2.2.1 == a0_1)) bt0.1 bt0.2.1 bt0.2.2 bt2.1 bt2.2.1) else (impl_deskDo.j0 k true bt0.1 bt0.2.1 bt0.2.2 bt2.1 bt2.2.1))))
abbrev impl_deskDo.M (k : Nat) : Prop := (∀ y0 y1 y2 y3 y4 y5, LeO (impl_deskDo.j0 k y0 y1 y2 y3 y4 y5) (impl_deskDo.j0 (k + 1) y0 y1 y2 y3 y4 y5))
theorem impl_deskDo.mono_t : ∀ k, impl_deskDo.M k → impl_deskDo.M (k + 1) ∧ ∀ a0 a1 a2 a3 a4, LeO (impl_deskDo.f k a0 a1 a2 a3 a4) (impl_deskDo.f (k + 1) a0 a1 a2 a3 a4) := by
  rintro k ih0
  refine ⟨?_, ?_⟩ <;> (try unfold impl_deskDo.M) <;> intros <;> (first | unfold impl_deskDo.j0 | unfold impl_deskDo.f) <;> repeat' (with_reducible first | exact ih0 _ _ _ _ _ _ | exact impl_nextFraction.mono _ _ _ _ _ | exact LeO.refl _ | exact LeO.none _ | refine LeO.ite ?_ ?_ | refine LeO.bind ?_ fun _ => ?_)
theorem impl_deskDo.mono_l : ∀ k, impl_deskDo.M k
 | 0 => fun _ _ _ _ _ _ r h => by simp [impl_deskDo.j0] at h
 | k + 1 => (impl_deskDo.mono_t k (impl_deskDo.mono_l k)).1
theorem impl_deskDo.mono a0 a1 a2 a3 a4 k : LeO (impl_deskDo.f k a0 a1 a2 a3 a4) (impl_deskDo.f (k + 1) a0 a1 a2 a3 a4) := (impl_deskDo.mono_t k (impl_deskDo.mono_l k)).2 a0 a1 a2 a3 a4
def impl_deskDo.T6 : Bool × List (List Nat × List Nat) := (true, [([], []), ([0], [0]), ([], []), ([1, 2], [1, 2]), ([3], [3]), ([], []), ([5], [5]), ([], []), ([6, 7], [6, 7]), ([4, 8], [4, 8]), ([9], [9]), ([10, 10, 0, 1, 2, 3, 4, 5, 6, 7, 8, 9, 10], [10]), ([11, 0, 1, 2, 3, 4, 5, 6, 7, 8, 9, 10, 11], [])])
def impl_deskDo.B6 : List Nat := [0, 1, 0, 7, 15, 0, 32, 0, 224, 511, 1023, 2047, 4095]
theorem impl_deskDo.tab6 : rtab .any (opsOf f61 6) = impl_deskDo.T6 := by kernel_rfl
theorem impl_deskDo.bits6 : waitsOk impl_deskDo.T6.2 impl_deskDo.B6 = true := by kernel_rfl
theorem impl_deskDo.calls (k : Nat) (a0_0 : Int) (a0_1 : Int) (A0_2 : Option Addr) (c0_2 : Nat) (l0_2 : List (S31)) (a1_0 : Int) (a1_1 : ByteArray) (r1 : Int) (r2 : Int) (r3 : List (S31)) (r4 : Bool) (w : World) (hG : Glob w) (hr0_2 : Kd.C k31 w A0_2 l0_2.length l0_2) (hc0_2 : l0_2.length ≤ c0_2) (H : impl_deskDo.f k a0_0 a0_1 l0_2 a1_0 a1_1 = some (r1, r2, r3, r4)) :
  Calls prog 61 #[.agg #[.int .i64 a0_0, .int .i64 a0_1, .slice A0_2 l0_2.length c0_2], .agg #[.int .i64 a1_0, .string a1_1]] w fun e w' => ∃ v2_ : Value, e = .returned (.tuple #[.agg #[.int .i64 r1, .int .i64 r2, v2_], .bool r4]) ∧ Kd.R k31 31 w' w.heap.size (fun _ => True) v2_ r3 ∧ Below w.heap.size w w' := by
 have hu34 := underlying34
 have hu38 := underlying38
 have hu31 := underlying31
 have HR0_2 := sqa hr0_2
 have HC0_2 := sqa hc0_2
 clear hr0_2 hc0_2
 have HB := sqh w
 unfold impl_deskDo.f at H
 obtain ⟨⟨t201, t202, t0⟩, A3, H⟩ := sqD H
 try dsimp only at H
 go_enter func61, ntmps61
 go_upto_if 15 with (first | ((with_reducible refine sqd 2 rfl ?_); refine sqBx w (sqB HB) (cs := #[.int .i64 a0_0, .int .i64 a0_1, .slice A0_2 l0_2.length c0_2]) (t := 34) ?_; intro g0 hg w6 B0 E0 HB hb; clear hb hg) | ((with_reducible refine sqd 3 rfl ?_); refine sqBx w (sqB1 HB E0) (cs := #[.int .i64 a1_0, .string a1_1]) (t := 38) ?_; intro g1 hg w7 B2 E1 HB hb; obtain ⟨N0, N1⟩ := sqM hg B0; replace B0 := sqT B0 hb; clear hb hg) | ((with_reducible refine sqd 4 rfl ?_); refine sqBx w (sqB2 HB E0 E1) (cs := #[.int .i64 0, .int .i64 0, .slice none 0 0]) (t := 34) ?_; intro g2 hg w8 B8 E2 HB hb; obtain ⟨N2, N3⟩ := sqM hg B0; replace B0 := sqT B0 hb; obtain ⟨N4, N5⟩ := sqM hg B2; replace B2 := sqT B2 hb; clear hb hg; have := N0.1; have := N1.1; have := N2.1; have := N3.1; obtain ⟨_, _, _, _, _, _⟩ := sqY3 B0) | ((with_reducible refine sqc 76 rfl ?_); refine sqC (some 12) func76 #[.agg #[.int .i64 a0_0, .int .i64 a0_1, .slice A0_2 l0_2.length c0_2]] ?_; (with_reducible refine (impl_copyDesk.calls a0_0 a0_1 _ _ l0_2 t201 t202 t0 _ ?side1 ?side2 A3.1).mono ?_); (case side1 => exact Z34); (case side2 => exact Z35); rintro e w2 ⟨v0, rfl, ho0, hb⟩; refine ⟨_, rfl, ?_⟩; have O0 := sqL ho0 (sqB3 HB E0 E1 E2); replace B0 := sqT B0 hb; replace B2 := sqT B2 hb; replace B8 := sqT B8 hb; replace HB := sqS (sqB3 HB E0 E1 E2) hb; (try clear ho0)) | ((with_reducible refine sqd 6 rfl ?_); refine sqBx w (sqB3 HB E0 E1 E2) (cs := #[.int .i64 0, .int .i64 0, .slice none 0 0]) (t := 34) ?_; intro g3 hg w3 B9 E3 HB hb; replace O0 := sqU O0 hb; obtain ⟨N6, N7⟩ := sqM hg B0; replace B0 := sqT B0 hb; obtain ⟨N8, N9⟩ := sqM hg B2; replace B2 := sqT B2 hb; obtain ⟨N10, N11⟩ := sqM hg B8; replace B8 := sqT B8 hb; clear hb hg; obtain ⟨Ao0, co0, eo0⟩ := Kd.R_slice O0.1; subst eo0; have := N7.1; have := N6.1; have := N9.1; have := N8.1; have := N11.1; have := N10.1; obtain ⟨_, _, _, _, _, _⟩ := sqY3 B9; have := N4.1; have := N5.1; obtain ⟨_, _, _, _⟩ := sqY2 B2; obtain ⟨_, _, _, _, _, _⟩ := sqY3 B8; obtain ⟨_, _, _, _, _, _⟩ := sqY3 B0))
 by_cases c4 : (a1_0 == 4 && (a1_1.toList == ([] : List UInt8))) = true
 ·rw [if_pos c4] at H
  have c4b0 : (a1_0 == 4 && (a1_1.toList == ([] : List UInt8))) = true := c4
  try have c4b8 : (a1_0 == 4 && a1_1.toList.isEmpty) = true := by (have h_ := c4b0; (repeat rw [sqy] at h_); exact h_)
  (try (have c4b1 : decide (a1_0 = 4 && (a1_1.toList == ([] : List UInt8))) = true := by simpa using c4))
  (try (have c4b2 : (a1_0 == 4 && (a1_1.toList == ([] : List UInt8))) = true := by simpa using c4))
  (first | rw [c4b0] | rw [c4b1] | rw [c4b2] | rw [c4b8] | simp only [i64_w, i32_w, c4b0, c4b1] | skip)
  clear c4
  go_upto_if 21 with fail
  by_cases c5 : (wrap64 ((t0.length : Int) - 1)) < 0
  ·rw [if_pos c5] at H
   have c5b0 : decide ((wrap64 ((t0.length : Int) - 1)) < 0) = true := decide_eq_true c5
   (first | rw [c5b0] | simp only [i64_w, i32_w, c5b0] | skip)
   clear c5
   obtain ⟨rfl, rfl, rfl, rfl⟩ := sqO4 H
   go_wp2_with fail
   refine sqE g2 34 #[.int .i64 t201, .int .i64 t202, .slice Ao0 t0.length co0] (by refine sqPut (cs := #[.int .i64 t201, .int .i64 t202, .slice none 0 0]) ?_ 2; refine sqPut (cs := #[.int .i64 t201, .int .i64 0, .slice none 0 0]) ?_ 1; refine sqPut (cs := #[.int .i64 0, .int .i64 0, .slice none 0 0]) ?_ 0; refine sqFar ?_ N10; refine sqFar ?_ N10; refine sqFar ?_ N10; exact sqK B8) underlying34 ?_
   exact ⟨_, Z5, by (with_reducible repeat (first | apply Kd.R_alloc | apply Kd.R_drewN | apply Kd.R_drew)); exact Kd.R_mono (Kd.R_far (p := ⟨g2, 2, none⟩) (Kd.R_far (p := ⟨g2, 1, none⟩) (Kd.R_far (p := ⟨g2, 0, none⟩) (Kd.R_far (p := ⟨g3, 2, none⟩) (Kd.R_far (p := ⟨g3, 1, none⟩) (Kd.R_far (p := ⟨g3, 0, none⟩) (Kd.R_types (Kd.R_types O0.1 B9.1 (by decide)) B8.1 (by decide)) (fun _ hk => hk.1.2) (.int .i64 t201)) (fun _ hk => hk.1.2) (.int .i64 t202)) (fun _ hk => hk.1.2) (.slice Ao0 t0.length co0)) (fun _ hk => hk.2) (.int .i64 t201)) (fun _ hk => hk.2) (.int .i64 t202)) (fun _ hk => hk.2) (.slice Ao0 t0.length co0)) (fun _ hk => trivial), sqB4 HB E0 E1 E2 E3⟩
  rw [if_neg c5] at H
  have c5b0 : decide ((wrap64 ((t0.length : Int) - 1)) < 0) = false := decide_eq_false c5
  (first | rw [c5b0] | simp only [i64_w, i32_w, c5b0] | skip)
  clear c5
  obtain ⟨ji22, hji22⟩ : ∃ j_ : Int, (wrap64 ((t0.length : Int) - 1)) = j_ := ⟨_, rfl⟩
  replace H : (if 0 ≤ (ji22) then (if (ji22) < (t0.length : Int) then (if (ji22) ≤ (t0.length : Int) then ((impl_copyDesk.f ((rd_T31 t0 (ji22)).f0) ((rd_T31 t0 (ji22)).f1) (t0.take ((ji22) : Int).toNat)).bind fun bt0 => (some (bt0.1, bt0.2.1, bt0.2.2, true))) else (none)) else (none)) else (none)) = some (r1, r2, r3, r4) := by first | (rw [hji22] at H; exact H) | (simp only [hji22] at H ⊢; exact H)
  (try rw [hji22] at c5b0)
  (try rw [hji22] at A3)
  have hji0 : (IntKind.i64.wrap ((t0.length : Int) - 1)) = ji22 := (i64_w _).trans hji22
  obtain ⟨c0, H⟩ := sqI H
  have c2 : decide (0 ≤ (ji22)) = true := decide_eq_true c0
  clear c0
  obtain ⟨c3, H⟩ := sqI H
  have c6 : decide ((ji22) < (t0.length : Int)) = true := decide_eq_true c3
  clear c3
  have c7 := eq_true (of_decide_eq_true Z16 : 0 ≤ (ji22))
  obtain ⟨c8, H⟩ := sqI H
  have c9 := eq_true c8
  have c10 : decide ((ji22) ≤ (t0.length : Int)) = true := decide_eq_true c8
  clear c8
  obtain ⟨y0, hy0⟩ : ∃ y_ : List (S31), y_ = (t0.take ((ji22) : Int).toNat) := ⟨_, rfl⟩
  replace H : ((impl_copyDesk.f ((rd_T31 t0 (ji22)).f0) ((rd_T31 t0 (ji22)).f1) y0).bind fun bt0 => (some (bt0.1, bt0.2.1, bt0.2.2, true))) = some (r1, r2, r3, r4) := sqW hy0 H
  have Ny0 := sqa hy0
  clear hy0
  obtain ⟨⟨t212, t213, t1⟩, A0, H⟩ := sqD H
  try dsimp only at H
  obtain ⟨rfl, rfl, rfl, rfl⟩ := sqO4 H
  try go_wp2_with fail
  obtain ⟨w4, hw_⟩ : ∃ w_, ((w3.setCell ⟨g3, 0, none⟩ (.int .i64 t201)).setCell ⟨g3, 1, none⟩ (.int .i64 t202)).setCell ⟨g3, 2, none⟩ (.slice Ao0 t0.length co0) = w_ := ⟨_, rfl⟩
  replace O0 : Aside0 (Kd.R k31 31 w4 w.heap.size (fun _ => True) (.slice Ao0 t0.length co0) t0) := by rw [← hw_]; exact ⟨by (with_reducible repeat (first | apply Kd.R_alloc | apply Kd.R_drewN | apply Kd.R_drew)); exact Kd.R_mono (sqr3 O0.1 B9.1) (fun _ hk => trivial)⟩
  replace B0 := sqJ hw_ N6 B0
  replace B2 := sqJ hw_ N8 B2
  replace B8 := sqJ hw_ N10 B8
  replace B9 : Aside0 (w4.heap[g3]? = some (.cells #[.int .i64 t201, .int .i64 t202, .slice Ao0 t0.length co0] 34 (0, 0))) := by rw [← hw_]; exact ⟨Z96 B9⟩
  replace HB : Aside0 (Below w.heap.size w w4) := by rw [← hw_]; exact ⟨sqB4 HB E0 E1 E2 E3⟩
  rw [hw_]; clear hw_
  replace O0 := sqa (Kd.R_drew O0.1)
  replace B0 := sqa (blk_drew B0.1)
  replace B2 := sqa (blk_drew B2.1)
  replace B8 := sqa (blk_drew B8.1)
  replace B9 := sqa (blk_drew B9.1)
  replace HB := sqa (below_drew1 HB.1)
  have p0 : 0 ≤ ((ji22) : Int) := of_decide_eq_true Z16
  have q0 : (ji22) < (t0.length : Int) := of_decide_eq_true Z16
  obtain ⟨ad0, e0, hx0, hx1⟩ := at_T31 (Kd.R_reads' O0.1).2.2 (ji22) p0 q0
  cases e0
  replace p0 := eq_true p0
  replace q0 := eq_true q0
  have q1 : ((ji22) : Int) ≤ ((t0.length : Int) : Int) := of_decide_eq_true Z16
  obtain ⟨i045, hi0, _, hsz0, _⟩ := info_parts info31
  have hroom0 : t0.length ≤ co0 := (Kd.R_reads' O0.1).2.1
  have hC0 : Kd.C k31 _ (some ad0) t0.length t0 := (Kd.R_reads' O0.1).2.2
  have hcut0 := cut_to (P := prog) 32 31 .i64 underlying32 hi0 (some ad0) t0.length co0 (ji22) (of_decide_eq_true Z16) q1 hroom0
  have hr0 := Kd.C_take (m := ((ji22) : Int).toNat) hC0 (by omega)
  have hy1 : y0.length = ((ji22) : Int).toNat := (by rw [Ny0.out, List.length_take]; omega)
  rw [← Ny0.out] at hr0
  rw [← hy1] at hcut0
  have HR0 := sqa hr0
  have HC0 := sqa (show y0.length ≤ co0 from by omega)
  clear hr0 hC0 hroom0 hi0 hsz0
  have KY0 := sqa hy1
  clear hy1
  have KL0 := sqa (show ((ji22) : Int).toNat ≤ t0.length from by omega)
  replace q1 := eq_true q1
  refine start_ (n := 13) (S := fun w' => w'.cell? ⟨g3, 0, none⟩ = some (.int .i64 t201) ∧ w'.cell? ⟨g3, 1, none⟩ = some (.int .i64 t202) ∧ w'.cell? ⟨g3, 2, none⟩ = some (.slice (some ad0) t0.length co0) ∧ w'.cell? (ad0.add (((ji22)).toNat * 2)) = some (.int .i64 ((rd_T31 t0 (ji22)).f0)) ∧ w'.cell? ⟨(ad0.add (((ji22)).toNat * 2)).block, (ad0.add (((ji22)).toNat * 2)).off + 1, none⟩ = some (.int .i64 ((rd_T31 t0 (ji22)).f1))) (ds := []) #[false, false, false, false, false, false, false, false, false, false, false, false, false] (by kernel_rfl) rfl rfl ⟨(blk_cell B9.1 0).trans rfl, (blk_cell B9.1 1).trans rfl, (blk_cell B9.1 2).trans rfl, hx0, hx1⟩ (fun hHeld => ?_); refine with_tabW impl_deskDo.tab6 impl_deskDo.bits6 (fun HT_ HW_ => ?_)
  generalize w4.drew = w5 at O0 B0 B2 B8 B9 HB HR0 hx0 hx1 hHeld ⊢
  refine sqP 0 (some 23) (h := ?_)
  refine sqP 2 (some 25) (h := ?_)
  refine sqP 5 (some 28) (h := ?_)
  refine sqP 7 (some 30) (h := ?_)
  refine sqQ 1 (some 24) hHeld (h := ?_)
  refine sqP 3 (some 26) (h := ?_)
  refine sqQ 4 (some 27) hHeld (h := ?_)
  refine sqQ 6 (some 29) hHeld (h := ?_)
  refine sqP 8 (some 31) (h := ?_)
  refine sqP 9 (some 32) (h := ?_)
  refine sq1 10 (some 33) (h := fun K hK => ?_)
  refine goes_ func76 (by kernel_rfl) rfl #[.agg #[.int .i64 ((rd_T31 t0 (ji22)).f0), .int .i64 ((rd_T31 t0 (ji22)).f1), .slice (some ad0) y0.length co0]] (by rfl) rfl rfl (by (try simp only [List.map_toArray, List.map_cons, List.map_nil]); first | done | (simp only [hji22]; rfl) | rfl | (simp only [List.length_drop, List.length_take]; rfl)) ?_
  with_reducible refine (impl_copyDesk.calls ((rd_T31 t0 (ji22)).f0) ((rd_T31 t0 (ji22)).f1) _ _ y0 t212 t213 t1 _ ?side1 ?side2 A0.1).mono ?_
  (case side1 => repeat (first | exact (Z97 HR0) | (with_reducible refine Kd.C_alloc ?_ _) | (with_reducible refine Kd.C_drewN ?_ _) | (with_reducible refine Kd.C_drew ?_)))
  (case side2 => exact HC0.1)
  rintro e w9 ⟨v1, rfl, ho0, hb⟩
  have HS3_ := (hb.cell (World.block_lt_of_cell? _ _ (hHeld.2.2.2.1))).trans (hHeld.2.2.2.1)
  have HS4_ := (hb.cell (World.block_lt_of_cell? _ _ (hHeld.2.2.2.2))).trans (hHeld.2.2.2.2)
  refine ⟨_, rfl, ?_⟩
  have O1 := sqa (Kd.R_lower (Kd.R_new' ho0 (Kd.R_lt (sqR O0))) (below_size (sqB4 HB E0 E1 E2 E3)))
  replace O0 := sqa (Kd.R_elder' (sqR O0) (Kd.R_base ho0) hb)
  replace B0 := sqT B0 hb
  replace B2 := sqT B2 hb
  replace B8 := sqT B8 hb
  replace B9 := sqT B9 hb
  replace HR0 := sqa (Kd.C_below (Z97 HR0) hb)
  replace HB := sqS (sqB4 HB E0 E1 E2 E3) hb
  obtain ⟨Ao1, co1, eo1⟩ := Kd.R_slice O1.1
  (first | subst eo1 | (injection eo1 with f1_ f2_ f3_; have f4_ := f1_.symm; have f5_ := f3_.symm; clear f1_ f2_ f3_; subst f4_; subst f5_))
  refine hK.out _ _ ⟨(blk_cell B9.1 0).trans rfl, (blk_cell B9.1 1).trans rfl, (blk_cell B9.1 2).trans rfl, HS3_, HS4_⟩ (fun hHeld => ?_)
  clear hK K
  refine sqN (some 33) ?_
  refine sq1 11 none (h := fun K hK => ?_)
  obtain ⟨_, _, _, _, _, _⟩ := sqY3 B8
  have := N2.1
  have := N4.1
  have := N11.1
  have := N3.1
  have := N5.1
  have := N10.1
  refine skip_ (w1 := ?_) (by rfl) rfl ?_ ?_
  rotate_left
  ·go_simp
   rfl
  refine hK.out _ _ ⟨((cell_far (p := ⟨g2, _, none⟩) N11.1 _).trans (((cell_far (p := ⟨g2, _, none⟩) N11.1 _).trans (((cell_far (p := ⟨g2, _, none⟩) N11.1 _).trans (hHeld.1)))))), ((cell_far (p := ⟨g2, _, none⟩) N11.1 _).trans (((cell_far (p := ⟨g2, _, none⟩) N11.1 _).trans (((cell_far (p := ⟨g2, _, none⟩) N11.1 _).trans (hHeld.2.1)))))), ((cell_far (p := ⟨g2, _, none⟩) N11.1 _).trans (((cell_far (p := ⟨g2, _, none⟩) N11.1 _).trans (((cell_far (p := ⟨g2, _, none⟩) N11.1 _).trans (hHeld.2.2.1)))))), ((cell_far (p := ⟨g2, _, none⟩) (Z98 O0 B8) _).trans (((cell_far (p := ⟨g2, _, none⟩) (Z98 O0 B8) _).trans (((cell_far (p := ⟨g2, _, none⟩) (Z98 O0 B8) _).trans (hHeld.2.2.2.1)))))), ((cell_far (p := ⟨g2, _, none⟩) (Z98 O0 B8) _).trans (((cell_far (p := ⟨g2, _, none⟩) (Z98 O0 B8) _).trans (((cell_far (p := ⟨g2, _, none⟩) (Z98 O0 B8) _).trans (hHeld.2.2.2.2))))))⟩ (fun hHeld => ?_)
  clear hK K
  refine sqP 12 (some 5) (h := ?_)
  refine done_ (done_of HT_.out (by kernel_rfl)) ?_
  try go_wp2
  refine sqE g2 34 #[.int .i64 t212, .int .i64 t213, .slice Ao1 t1.length co1] (by refine sqPut (cs := #[.int .i64 t212, .int .i64 t213, .slice none 0 0]) ?_ 2; refine sqPut (cs := #[.int .i64 t212, .int .i64 0, .slice none 0 0]) ?_ 1; refine sqPut (cs := #[.int .i64 0, .int .i64 0, .slice none 0 0]) ?_ 0; exact sqK B8) underlying34 ?_
  exact ⟨_, Z56, by (with_reducible repeat (first | apply Kd.R_alloc | apply Kd.R_drewN | apply Kd.R_drew)); exact Kd.R_mono (sqr3 O1.1 B8.1) (fun _ hk => trivial), sqB4 HB E0 E1 E2 E3⟩
 rw [if_neg c4] at H
 have c4b0 : (a1_0 == 4 && (a1_1.toList == ([] : List UInt8))) = false := by simpa using c4
 try have c4b8 : (a1_0 == 4 && a1_1.toList.isEmpty) = false := by (have h_ := c4b0; (repeat rw [sqy] at h_); exact h_)
 (try (have c4b1 : decide (a1_0 = 4 && (a1_1.toList == ([] : List UInt8))) = false := by simpa using c4))
 (try (have c4b2 : (a1_0 == 4 && (a1_1.toList == ([] : List UInt8))) = false := by simpa using c4))
 (try (have c4b3 : ¬ (a1_0 = 4 && (a1_1.toList == ([] : List UInt8))) := by simpa using c4))
 (first | rw [c4b0] | rw [c4b1] | rw [c4b2] | rw [c4b3] | rw [c4b8] | simp only [i64_w, i32_w, c4b0, c4b1] | skip)
 clear c4
 obtain ⟨⟨t217, t218, t2⟩, A2, H⟩ := sqD H
 try dsimp only at H
 have HC1 := sqa H
 clear H
 go_upto_region 8 with (first | ((with_reducible refine sqc 111 rfl ?_); refine sqC (some 38) func111 #[.agg #[.int .i64 a0_0, .int .i64 a0_1], .agg #[.int .i64 a1_0, .string a1_1]] ?_; (with_reducible refine (impl_nextFraction.calls k a0_0 a0_1 a1_0 a1_1 t217 t218 t2 _ ?sideG A2.1).mono ?_); (case sideG => exact Glob.below hG (sqB4 HB E0 E1 E2 E3)); refine sqV fun w69 hb => ?_; replace O0 := sqa (Kd.R_below (by (with_reducible repeat (first | apply Kd.R_alloc | apply Kd.R_drewN | apply Kd.R_drew)); exact (Kd.R_mono (sqr3 O0.1 B9.1) (fun _ h_ => h_.1))) hb); replace B0 := sqH N6 B0 hb; replace B2 := sqH N8 B2 hb; replace B8 := sqH N10 B8 hb; replace B9 := sqa (blk_below (g := g3) (o := .cells #[.int .i64 t201, .int .i64 t202, .slice Ao0 t0.length co0] 34 (0, 0)) (Z96 B9) hb); replace HB := sqS (sqB4 HB E0 E1 E2 E3) hb) | ((with_reducible refine sqd 8 rfl ?_); refine sqBx w (sqB4 HB E0 E1 E2 E3) (cs := #[.int .i64 0, .int .i64 0]) (t := 31) ?_; intro gb220 hg w70 B10 E4 HB hb; replace O0 := sqa (Kd.R_below (Kd.R_elderB (sqR O0) gb220 (Nat.le_of_eq hg.symm)) hb); obtain ⟨N12, N13⟩ := sqM hg B0; replace B0 := sqT B0 hb; obtain ⟨N14, N15⟩ := sqM hg B2; replace B2 := sqT B2 hb; obtain ⟨N16, N17⟩ := sqM hg B8; replace B8 := sqT B8 hb; obtain ⟨N18, N19⟩ := sqM hg B9; replace B9 := sqT B9 hb; clear hb hg; have := N13.1; have := N12.1; have := N15.1; have := N14.1; have := N17.1; have := N16.1; have := N19.1; have := N18.1; obtain ⟨_, _, _, _⟩ := sqY2 B10))
 (try simp only [Act.put, List.setIfInBounds_toArray, List.set_cons_zero, List.set_cons_succ])
 go_cut [48] (fun v2 wc => ∃ (kq : Nat) (x0 : Bool), v2 = .bool x0 ∧ Aside0 (impl_deskDo.j0 kq x0 t201 t202 t0 t217 t218 = some (r1, r2, r3, r4)) ∧ Aside0 (kq ≤ k) ∧ Aside0 (Kd.R k31 31 wc w.heap.size (fun k_ => k_ ≠ gb220) (.slice Ao0 t0.length co0) t0) ∧ Aside0 (wc.heap[g0]? = some (.cells #[.int .i64 a0_0, .int .i64 a0_1, (.slice A0_2 l0_2.length c0_2)] 34 (0, 0))) ∧ Aside0 (wc.heap[g1]? = some (.cells #[.int .i64 a1_0, .string a1_1] 38 (0, 0))) ∧ Aside0 (wc.heap[g2]? = some (.cells #[.int .i64 0, .int .i64 0, (.slice none 0 0)] 34 (0, 0))) ∧ Aside0 (wc.heap[g3]? = some (.cells #[.int .i64 t201, .int .i64 t202, (.slice Ao0 t0.length co0)] 34 (0, 0))) ∧ Aside0 (wc.heap[gb220]? = some (.cells #[.int .i64 t217, .int .i64 t218] 31 (0, 0))) ∧ Aside0 (Below w.heap.size w wc))
 case first =>
  have H := HC1.1
  clear HC1
  by_cases c76 : t2 = true
  ·subst c76
   rw [if_pos rfl] at H
   have H' := sqa H
   clear H
   have := N13.1
   have := N12.1
   have := N15.1
   have := N14.1
   have := N17.1
   have := N16.1
   have := N19.1
   have := N18.1
   obtain ⟨_, _, _, _⟩ := sqY2 B10
   have := N0.1
   have := N1.1
   have := N2.1
   have := N3.1
   have := N6.1
   have := N7.1
   obtain ⟨_, _, _, _, _, _⟩ := sqY3 B0
   go_wp2
   go_meet
   case rel => exact ⟨_, ((t217 == a0_0 && (t218 == a0_1))), Z1, H', ⟨Z11⟩, ⟨Z99 O0⟩, ⟨Z9 N12 B0⟩, ⟨Z9 N14 B2⟩, ⟨Z9 N16 B8⟩, ⟨Z9 N18 B9⟩, ⟨Z100 B10⟩, ⟨Z42 E0 E1 E2 E3 E4⟩⟩
  obtain rfl := sqb c76
  rw [if_neg sqF] at H
  have H' := sqa H
  clear H
  go_wp2
  go_meet
  case rel => exact ⟨_, (true), Z1, H', ⟨Z11⟩, ⟨Z99 O0⟩, ⟨Z9 N12 B0⟩, ⟨Z9 N14 B2⟩, ⟨Z9 N16 B8⟩, ⟨Z9 N18 B9⟩, ⟨Z100 B10⟩, ⟨Z42 E0 E1 E2 E3 E4⟩⟩
 case rest =>
  clear HC1
  obtain ⟨kq, x0, rfl, HA, HJ0, O2, B0, B2, B8, B9, B10, HB⟩ := hcut
  cases kq with
  | zero => exact absurd HA.out (by simp [impl_deskDo.j0])
  | succ kj0 =>
   have H := HA.out
   clear HA
   simp only [impl_deskDo.j0] at H
   by_cases c86 : x0 = true
   ·subst c86
    rw [if_pos rfl] at H
    obtain ⟨rfl, rfl, rfl, rfl⟩ := sqO4 H
    have := N7.1
    have := N6.1
    have := N9.1
    have := N8.1
    have := N11.1
    have := N10.1
    have := N18.1
    have := N19.1
    obtain ⟨_, _, _, _, _, _⟩ := sqY3 B9
    have := N3.1
    have := N2.1
    have := N5.1
    have := N4.1
    have := N16.1
    have := N17.1
    obtain ⟨_, _, _, _, _, _⟩ := sqY3 B8
    go_wp2
    refine sqE g2 34 #[.int .i64 t201, .int .i64 t202, .slice Ao0 t0.length co0] (Z96 B8) underlying34 ?_
    exact ⟨_, Z5, by (with_reducible repeat (first | apply Kd.R_alloc | apply Kd.R_drewN | apply Kd.R_drew)); exact Kd.R_mono (sqr3 O2.1 B8.1) (fun _ hk => trivial), Z42 E0 E1 E2 E3 E4⟩
   obtain rfl := sqb c86
   rw [if_neg sqF] at H
   obtain ⟨c96, H⟩ := sqI H
   have LMc0 := sqa c96
   clear c96
   obtain ⟨y1, hy2⟩ : ∃ y_ : List (S31), y_ = (t0 ++ [(⟨t201, t202⟩ : S31)]) := ⟨_, rfl⟩
   replace H : (if (y1.length : Int) > 8 then (if 1 ≤ (y1.length : Int) then ((impl_copyDesk.f t217 t218 (y1.drop (1 : Int).toNat)).bind fun bt1 => (some (bt1.1, bt1.2.1, bt1.2.2, true))) else (none)) else ((impl_copyDesk.f t217 t218 y1).bind fun bt2 => (some (bt2.1, bt2.2.1, bt2.2.2, true)))) = some (r1, r2, r3, r4) := sqW hy2 H
   have Ny1 := sqa hy2
   clear hy2
   by_cases c97 : (y1.length : Int) > 8
   ·rw [if_pos c97] at H
    have c14 : decide (8 < (y1.length : Int)) = true := decide_eq_true c97
    have c15 : decide (8 < y1.length) = true := decide_eq_true (by omega)
    clear c97
    obtain ⟨c98, H⟩ := sqI H
    have c17 := eq_true c98
    have c18 : decide (1 ≤ (y1.length : Int)) = true := decide_eq_true c98
    clear c98
    obtain ⟨y2, hy3⟩ : ∃ y_ : List (S31), y_ = (y1.drop (1 : Int).toNat) := ⟨_, rfl⟩
    replace H : ((impl_copyDesk.f t217 t218 y2).bind fun bt1 => (some (bt1.1, bt1.2.1, bt1.2.2, true))) = some (r1, r2, r3, r4) := sqW hy3 H
    have Ny2 := sqa hy3
    clear hy3
    obtain ⟨⟨t3, t4, t5⟩, A4, H⟩ := sqD H
    try dsimp only at H
    obtain ⟨rfl, rfl, rfl, rfl⟩ := sqO4 H
    have := N7.1
    have := N6.1
    have := N9.1
    have := N8.1
    have := N11.1
    have := N10.1
    have := N18.1
    have := N19.1
    obtain ⟨_, _, _, _, _, _⟩ := sqY3 B9
    go_wp2_with (first | ((with_reducible refine gate_builtin (b := .append) (xs := #[.tmp 51, .tmp 54]) rfl ?_); at_builtin; refine Kd.R_append k31 (w0 := w) w.heap.size rfl (.tmp 51) (.tmp 54) 32 31 (.agg #[(.int .i64 0), (.int .i64 0)]) 16 rfl underlying32 info31 rfl (by decide) (by omega) (.slice Ao0 t0.length co0) t0 (⟨t201, t202⟩ : S31) [.int .i64 t201, .int .i64 t202] (fun k_ => k_ ≠ gb220) (fun _ => False) rfl rfl ?aP (fun _ hk => hk.elim) ?aF ?aO ?aB ?aS ?aL ?_; (case aP => exact k31_mkM _ _ _ (⟨t201, t202⟩ : S31)); (case aB => exact (Z42 E0 E1 E2 E3 E4)); (case aF => exact (fun k_ hk => Kd.freshB (sqK B10) k_ hk)); (case aO => exact (sqR O2)); (case aS => exact (below_size (Z42 E0 E1 E2 E3 E4))); (case aL => exact Z2 LMc0); intro v3 w14 ho hb hg hat; rw [← Ny1.out] at ho; replace B0 := sqa (blk_grown (sqK B0) hg (Kd.R_ne O2.1 B0.1 (by decide))); replace B2 := sqa (blk_grown (sqK B2) hg (Kd.R_ne O2.1 B2.1 (by decide))); replace B8 := sqa (blk_grown (sqK B8) hg (Kd.R_ne O2.1 B8.1 (by decide))); replace B9 := sqa (blk_grown (sqK B9) hg (Kd.R_ne O2.1 B9.1 (by decide))); replace B10 := sqa (blk_grown (sqK B10) hg (Kd.R_away O2.1 (fun _ hk => hk))); replace HB := sqa (hb); have O3 := sqa (ho); clear O2; clear ho hb hg hat; obtain ⟨Ao2, co2, eo2⟩ := Kd.R_slice O3.1; subst eo2; have q2 : (1 : Int) ≤ ((y1.length : Int) : Int) := of_decide_eq_true Z16; obtain ⟨i0107, hi1, _, hsz1, _⟩ := info_parts info31; have hcut1 := cut_from (P := prog) 32 31 .i64 underlying32 hi1 2 hsz1 Ao2 y1.length co2 1 (by omega) q2; have hr1 := Kd.Q_drop (k := (1 : Int).toNat) (Kd.Q_of_R O3.1) (by omega); obtain ⟨A5, hA0⟩ : ∃ A1, A1 = (if co2 = (1 : Int).toNat then Ao2 else (Ao2 : Option Addr).map (·.add ((1 : Int).toNat * 2))) := ⟨_, rfl⟩; obtain ⟨c19, hc0⟩ : ∃ c1, c1 = co2 - (1 : Int).toNat := ⟨_, rfl⟩; have hy4 : y2.length = y1.length - (1 : Int).toNat := (by rw [Ny2.out, List.length_drop]); rw [← Ny2.out] at hr1; rw [← hy4, ← hA0, ← hc0] at hcut1; replace hr1 : Kd.Q k31 31 w14 w.heap.size (fun k_ => k_ ≠ gb220) (.slice A5 y2.length c19) y2 := (by rw [hA0, hc0, hy4]; exact hr1); have HE0 : Aside0 ((Value.slice A5 y2.length c19).ownBlock = (.slice Ao2 y1.length co2 : Value).ownBlock) := ⟨by rw [hA0]; split <;> (cases (Ao2 : Option Addr) <;> rfl)⟩; clear hy4 hi1 hsz1 O3 hA0 hc0; have O4 := sqa hr1; clear hr1; replace q2 := eq_true q2; have := N13.1; have := N12.1; have := N15.1; have := N14.1; have := N17.1; have := N16.1; obtain ⟨_, _, _, _⟩ := sqY2 B10) | ((with_reducible refine sqc 76 rfl ?_); refine sqC (some 64) func76 #[.agg #[.int .i64 t217, .int .i64 t218, .slice A5 y2.length c19]] ?_; (with_reducible refine (impl_copyDesk.calls t217 t218 _ _ y2 t3 t4 t5 _ ?side1 ?side2 A4.1).mono ?_); (case side1 => exact Z77 O4); (case side2 => exact Z78 O4); rintro e w15 ⟨v4, rfl, ho0, hb⟩; refine ⟨_, rfl, ?_⟩; have O5 := sqa (Kd.R_lower (Kd.R_newB (Kd.R_new' ho0 (Kd.Q_lt (Z39 O4))) (sqK B10)) (below_size (Z42 E0 E1 E2 E3 E4))); replace O4 := sqa (Kd.Q_elder' (Z39 O4) (Kd.R_base ho0) hb); replace B0 := sqT B0 hb; replace B2 := sqT B2 hb; replace B8 := sqT B8 hb; replace B9 := sqT B9 hb; replace B10 := sqT B10 hb; replace HB := sqa (below_step (Z42 E0 E1 E2 E3 E4) hb); (try clear ho0); have := N3.1; have := N2.1; have := N5.1; have := N4.1; obtain ⟨_, _, _, _, _, _⟩ := sqY3 B8; obtain ⟨Ao3, co3, eo3⟩ := Kd.R_slice O5.1; subst eo3))
    refine sqE g2 34 #[.int .i64 t3, .int .i64 t4, .slice Ao3 t5.length co3] (by refine sqPut (cs := #[.int .i64 t3, .int .i64 t4, .slice none 0 0]) ?_ 2; refine sqPut (cs := #[.int .i64 t3, .int .i64 0, .slice none 0 0]) ?_ 1; refine sqPut (cs := #[.int .i64 0, .int .i64 0, .slice none 0 0]) ?_ 0; exact sqK B8) underlying34 ?_
    exact ⟨_, Z5, by (with_reducible repeat (first | apply Kd.R_alloc | apply Kd.R_drewN | apply Kd.R_drew)); exact Kd.R_mono (sqr3 O5.1 B8.1) (fun _ hk => trivial), Z42 E0 E1 E2 E3 E4⟩
   rw [if_neg c97] at H
   have c14 : decide (8 < (y1.length : Int)) = false := decide_eq_false c97
   have c15 : decide (8 < y1.length) = false := decide_eq_false (by omega)
   clear c97
   obtain ⟨⟨t232, t233, t6⟩, A6, H⟩ := sqD H
   try dsimp only at H
   obtain ⟨rfl, rfl, rfl, rfl⟩ := sqO4 H
   have := N7.1
   have := N6.1
   have := N9.1
   have := N8.1
   have := N11.1
   have := N10.1
   have := N18.1
   have := N19.1
   obtain ⟨_, _, _, _, _, _⟩ := sqY3 B9
   go_wp2_with (first | ((with_reducible refine gate_builtin (b := .append) (xs := #[.tmp 51, .tmp 54]) rfl ?_); at_builtin; refine Kd.R_append k31 (w0 := w) w.heap.size rfl (.tmp 51) (.tmp 54) 32 31 (.agg #[(.int .i64 0), (.int .i64 0)]) 16 rfl underlying32 info31 rfl (by decide) (by omega) (.slice Ao0 t0.length co0) t0 (⟨t201, t202⟩ : S31) [.int .i64 t201, .int .i64 t202] (fun k_ => k_ ≠ gb220) (fun _ => False) rfl rfl ?aP (fun _ hk => hk.elim) ?aF ?aO ?aB ?aS ?aL ?_; (case aP => exact k31_mkM _ _ _ (⟨t201, t202⟩ : S31)); (case aB => exact (Z42 E0 E1 E2 E3 E4)); (case aF => exact (fun k_ hk => Kd.freshB (sqK B10) k_ hk)); (case aO => exact (sqR O2)); (case aS => exact (below_size (Z42 E0 E1 E2 E3 E4))); (case aL => exact Z2 LMc0); intro v3 w16 ho hb hg hat; rw [← Ny1.out] at ho; replace B0 := sqa (blk_grown (sqK B0) hg (Kd.R_ne O2.1 B0.1 (by decide))); replace B2 := sqa (blk_grown (sqK B2) hg (Kd.R_ne O2.1 B2.1 (by decide))); replace B8 := sqa (blk_grown (sqK B8) hg (Kd.R_ne O2.1 B8.1 (by decide))); replace B9 := sqa (blk_grown (sqK B9) hg (Kd.R_ne O2.1 B9.1 (by decide))); replace B10 := sqa (blk_grown (sqK B10) hg (Kd.R_away O2.1 (fun _ hk => hk))); replace HB := sqa (hb); have O3 := sqa (ho); clear O2; clear ho hb hg hat; obtain ⟨Ao4, co4, eo4⟩ := Kd.R_slice O3.1; subst eo4; have := N13.1; have := N12.1; have := N15.1; have := N14.1; have := N17.1; have := N16.1; obtain ⟨_, _, _, _⟩ := sqY2 B10) | ((with_reducible refine sqc 76 rfl ?_); refine sqC (some 64) func76 #[.agg #[.int .i64 t217, .int .i64 t218, .slice Ao4 y1.length co4]] ?_; (with_reducible refine (impl_copyDesk.calls t217 t218 _ _ y1 t232 t233 t6 _ ?side1 ?side2 A6.1).mono ?_); (case side1 => exact Z7 O3); (case side2 => exact Z8 O3); rintro e w17 ⟨v5, rfl, ho0, hb⟩; refine ⟨_, rfl, ?_⟩; have O6 := sqa (Kd.R_lower (Kd.R_newB (Kd.R_new' ho0 (Kd.R_lt (sqR O3))) (sqK B10)) (below_size (Z42 E0 E1 E2 E3 E4))); replace O3 := sqa (Kd.R_elder' (sqR O3) (Kd.R_base ho0) hb); replace B0 := sqT B0 hb; replace B2 := sqT B2 hb; replace B8 := sqT B8 hb; replace B9 := sqT B9 hb; replace B10 := sqT B10 hb; replace HB := sqa (below_step (Z42 E0 E1 E2 E3 E4) hb); (try clear ho0); have := N3.1; have := N2.1; have := N5.1; have := N4.1; obtain ⟨_, _, _, _, _, _⟩ := sqY3 B8; obtain ⟨Ao5, co5, eo5⟩ := Kd.R_slice O6.1; subst eo5))
   refine sqE g2 34 #[.int .i64 t232, .int .i64 t233, .slice Ao5 t6.length co5] (by refine sqPut (cs := #[.int .i64 t232, .int .i64 t233, .slice none 0 0]) ?_ 2; refine sqPut (cs := #[.int .i64 t232, .int .i64 0, .slice none 0 0]) ?_ 1; refine sqPut (cs := #[.int .i64 0, .int .i64 0, .slice none 0 0]) ?_ 0; exact sqK B8) underlying34 ?_
   exact ⟨_, Z5, by (with_reducible repeat (first | apply Kd.R_alloc | apply Kd.R_drewN | apply Kd.R_drew)); exact Kd.R_mono (sqr3 O6.1 B8.1) (fun _ hk => trivial), Z42 E0 E1 E2 E3 E4⟩
end
end Go.Proofs.YtofmlbgfcohhoaaGreatDoor.PFnDeskLine
