import Derived.Test.YtofmlbgfcohhoaaGreatDoorPFnExactDeskSayx21
import Derived.Test.YtofmlbgfcohhoaaGreatDoorPFnExactDeskSayx22
set_option maxHeartbeats 8000000
set_option maxRecDepth 100000
namespace Go.Proofs.YtofmlbgfcohhoaaGreatDoor.PFnExactDeskSay
open Go.RowKit Go.Proofs.YtofmlbgfcohhoaaGreatDoorW.PrintWords Go.Proofs.YtofmlbgfcohhoaaGreatDoorW.PrintLast Go.Proofs.YtofmlbgfcohhoaaGreatDoorW.PrintMore Go.Proofs.YtofmlbgfcohhoaaGreatDoor.Lib Go.Proofs.Tryz
attribute [local go_sem] max2_int min2_int max_two min_two max_three min_three max_four min_four   -- for this text's walks alone
set_option linter.unusedVariables false
set_option linter.unusedSimpArgs false

/-! ### impl_asked: function 125 -/
mutual
def impl_asked.j0 : Nat → Int → Bool → Int → Int → Option (ByteArray)
 | 0, _, _, _, _ => none
 | k + 1, x11, x0, x1, x2 => if x0 = true then (some (⟨#[119, 104, 97, 116]⟩ : ByteArray)) else (if x11 < 1 then (impl_asked.j1 k x11 true x1 x2) else (impl_asked.j1 k x11 (decide (x11 > 12)) x1 x2))
def impl_asked.j1 : Nat → Int → Bool → Int → Int → Option (ByteArray)
 | 0, _, _, _, _ => none
 | k + 1, x11, x0, x1, x2 => if x0 = true then (some (⟨#[110, 111, 110, 101]⟩ : ByteArray)) else ((impl_TiedFor.f k x1 x2 x11).bind fun t0 => ((strconv_Itoa.f t0).bind fun t1 => (some t1)))
end
def impl_asked.f (k : Nat) (a0_0 : Int) (a0_1 : Int) (a1 : ByteArray) : Option (ByteArray) := if a1.toList = ([116, 101, 120, 116] : List UInt8) then ((impl_fractionText.f a0_0 a0_1).bind fun t0 => (some t0)) else (if a1.toList = ([109, 111, 118, 101, 115] : List UInt8) then ((impl_isSmall.f k a0_0 a0_1 12).bind fun t1 => (if t1 = true then ((impl_untied.f k a0_0 a0_1).bind fun t2 => (if 1 + t2.size ≤ 9223372036854775807 then (some ((⟨#[58]⟩ : ByteArray) ++ t2)) else (none))) else (some (⟨#[110, 111, 110, 101]⟩ : ByteArray)))) else (if a1.toList = ([116, 101, 114, 109, 115] : List UInt8) then ((impl_TermsOf.f k a0_0 a0_1).bind fun bt0 => (if bt0.2 = true then ((impl_listText.f k bt0.1).bind fun t3 => (some t3)) else (some (⟨#[110, 111, 110, 101]⟩ : ByteArray)))) else (if a1.toList = ([99, 114, 111, 115, 115, 105, 110, 103, 115] : List UInt8) then ((impl_CrossingsOf.f k a0_0 a0_1).bind fun t4 => ((strconv_Itoa.f t4).bind fun t5 => (some t5))) else (if a1.toList = ([101, 110, 100, 115] : List UInt8) then ((impl_EndsFor.f k a0_0 a0_1).bind fun t6 => ((impl_listText.f k t6).bind fun t7 => (some t7))) else (if a1.toList = ([114, 105, 110, 103, 115] : List UInt8) then ((impl_RingsOf.f k a0_0 a0_1).bind fun t8 => ((strconv_Itoa.f t8).bind fun t9 => (some t9))) else (if a1.toList = ([108, 105, 110, 107] : List UInt8) then ((impl_linkOf.f k a0_0 a0_1).bind fun bt1 => (if bt1.2.2 = true then ((impl_least.f k bt1.1 bt1.2.1).bind fun bt2 => ((strconv_Itoa.f bt2.1).bind fun t10 => (if t10.size + 1 ≤ 9223372036854775807 then ((strconv_Itoa.f bt2.2).bind fun t11 => (if (t10 ++ (⟨#[58]⟩ : ByteArray)).size + t11.size ≤ 9223372036854775807 then (some ((t10 ++ (⟨#[58]⟩ : ByteArray)) ++ t11)) else (none))) else (none)))) else (some (⟨#[110, 111, 110, 101]⟩ : ByteArray)))) else ((strings_CutPrefix.f a1 (⟨#[99, 111, 108, 111, 117, 114, 115, 32]⟩ : ByteArray)).bind fun bt3 => ((strconv_Atoi.f bt3.1).bind fun bt4 => (if bt3.2 = true then (if bt4.2.isNone = true then (if bt4.1 < 0 then (impl_asked.j0 k bt4.1 true a0_0 a0_1) else (if bt4.1 > 9999999 then (impl_asked.j0 k bt4.1 true a0_0 a0_1) else ((strconv_Itoa.f bt4.1).bind fun t12 => (impl_asked.j0 k bt4.1 (t12.toList != bt3.1.toList) a0_0 a0_1)))) else (impl_asked.j0 k bt4.1 true a0_0 a0_1)) else (impl_asked.j0 k bt4.1 true a0_0 a0_1))))))))))
abbrev impl_asked.M (k : Nat) : Prop := (∀ y0 y1 y2 y3, LeO (impl_asked.j0 k y0 y1 y2 y3) (impl_asked.j0 (k + 1) y0 y1 y2 y3)) ∧ (∀ y0 y1 y2 y3, LeO (impl_asked.j1 k y0 y1 y2 y3) (impl_asked.j1 (k + 1) y0 y1 y2 y3))
theorem impl_asked.mono_t : ∀ k, impl_asked.M k → impl_asked.M (k + 1) ∧ ∀ a0 a1 a2, LeO (impl_asked.f k a0 a1 a2) (impl_asked.f (k + 1) a0 a1 a2) := by
  rintro k ⟨ih0, ih1⟩
  refine ⟨⟨?_, ?_⟩, ?_⟩ <;> intros <;> (first | unfold impl_asked.j0 | unfold impl_asked.j1 | unfold impl_asked.f) <;> repeat' (with_reducible first | exact ih0 _ _ _ _ | exact ih1 _ _ _ _ | exact impl_CrossingsOf.mono _ _ _ | exact impl_EndsFor.mono _ _ _ | exact impl_RingsOf.mono _ _ _ | exact impl_TermsOf.mono _ _ _ | exact impl_TiedFor.mono _ _ _ _ | exact impl_isSmall.mono _ _ _ _ | exact impl_least.mono _ _ _ | exact impl_linkOf.mono _ _ _ | exact impl_listText.mono _ _ | exact impl_untied.mono _ _ _ | exact LeO.refl _ | exact LeO.none _ | refine LeO.ite ?_ ?_ | refine LeO.bind ?_ fun _ => ?_)
theorem impl_asked.mono_l : ∀ k, impl_asked.M k
 | 0 => ⟨fun _ _ _ _ r h => by simp [impl_asked.j0] at h, fun _ _ _ _ r h => by simp [impl_asked.j1] at h⟩
 | k + 1 => (impl_asked.mono_t k (impl_asked.mono_l k)).1
theorem impl_asked.mono a0 a1 a2 k : LeO (impl_asked.f k a0 a1 a2) (impl_asked.f (k + 1) a0 a1 a2) := (impl_asked.mono_t k (impl_asked.mono_l k)).2 a0 a1 a2
def impl_asked.T24 : Bool × List (List Nat × List Nat) := (true, [([], []), ([0], [0]), ([1], [1]), ([2], [2]), ([], []), ([4], [4]), ([5, 2], [5]), ([3, 6], [3, 6]), ([7, 6, 0, 1, 2, 3, 4, 5, 6, 7], [7])])
def impl_asked.B24 : List Nat := [0, 1, 3, 7, 0, 16, 55, 127, 255]
theorem impl_asked.tab24 : rtab .any (opsOf f125 24) = impl_asked.T24 := by kernel_rfl
theorem impl_asked.bits24 : waitsOk impl_asked.T24.2 impl_asked.B24 = true := by kernel_rfl
theorem impl_asked.calls (k : Nat) (a0_0 : Int) (a0_1 : Int) (a1 : ByteArray) (r : ByteArray) (w : World) (hG : Glob w) (H : impl_asked.f k a0_0 a0_1 a1 = some r) :
  Calls prog 125 #[.agg #[.int .i64 a0_0, .int .i64 a0_1], .string a1] w fun e w' => e = .returned (.string r) ∧ Below w.heap.size w w' := by
 have hu31 := underlying31
 have hu116 := underlying116
 have hu150 := underlying150
 have HB := sqh w
 unfold impl_asked.f at H
 by_cases c3 : a1.toList = ([116, 101, 120, 116] : List UInt8)
 ·rw [if_pos c3] at H
  have c3b0 : (a1.toList == ([116, 101, 120, 116] : List UInt8)) = true := sqe1 c3
  have c3b1 : (a1.toList != ([116, 101, 120, 116] : List UInt8)) = false := sqn0 c3
  clear c3
  obtain ⟨t0, A4, H⟩ := sqD H
  obtain rfl := sqo H
  go_enter func125, ntmps125
  go_wp2_with (first | ((with_reducible refine sqd 2 rfl ?_); refine sqBx w (sqB HB) (cs := #[.int .i64 a0_0, .int .i64 a0_1]) (t := 31) ?_; intro g0 hg w5 B0 E0 HB hb; clear hb hg; obtain ⟨_, _, _, _⟩ := sqY2 B0) | ((with_reducible refine sqc 141 rfl ?_); refine sqC (some 17) func141 #[.agg #[.int .i64 a0_0, .int .i64 a0_1]] ?_; (with_reducible refine (impl_fractionText.calls a0_0 a0_1 t0 _ ?sideG A4.1).mono ?_); (case sideG => exact Z108 E0); refine sqV fun w7 hb => ?_; replace B0 := sqT B0 hb; replace HB := sqS (sqB1 HB E0) hb; (try clear hb)))
  go_ret
  exact ⟨Z16, sqB1 HB E0⟩
 rw [if_neg c3] at H
 have c3b0 : (a1.toList == ([116, 101, 120, 116] : List UInt8)) = false := sqe0 c3
 have c3b1 : (a1.toList != ([116, 101, 120, 116] : List UInt8)) = true := sqn1 c3
 by_cases c8 : a1.toList = ([109, 111, 118, 101, 115] : List UInt8)
 ·rw [if_pos c8] at H
  have c8b0 : (a1.toList == ([109, 111, 118, 101, 115] : List UInt8)) = true := sqe1 c8
  have c8b1 : (a1.toList != ([109, 111, 118, 101, 115] : List UInt8)) = false := sqn0 c8
  clear c8
  obtain ⟨t1, A9, H⟩ := sqD H
  by_cases c10 : t1 = true
  ·subst c10
   rw [if_pos rfl] at H
   obtain ⟨t2, A11, H⟩ := sqD H
   obtain ⟨c12, H⟩ := sqI H
   have c12b0 := eq_true c12
   have c12b1 : decide (1 + t2.size ≤ 9223372036854775807) = true := decide_eq_true c12
   try have c12b2 : (9223372036854775807 < 1 + t2.size) = False := eq_false (Nat.not_lt.2 c12)
   obtain rfl := sqo H
   go_enter func125, ntmps125
   go_wp2_with (first | ((with_reducible refine sqd 2 rfl ?_); refine sqBx w (sqB HB) (cs := #[.int .i64 a0_0, .int .i64 a0_1]) (t := 31) ?_; intro g0 hg w13 B0 E0 HB hb; clear hb hg; obtain ⟨_, _, _, _⟩ := sqY2 B0) | ((with_reducible refine sqc 104 rfl ?_); refine sqC (some 21) func104 #[.agg #[.int .i64 a0_0, .int .i64 a0_1], .int .i64 12] ?_; (with_reducible refine (impl_isSmall.calls k a0_0 a0_1 12 true _ A9.1).mono ?_); refine sqV fun w15 hb => ?_; replace B0 := sqT B0 hb; replace HB := sqS (sqB1 HB E0) hb; (try clear hb); obtain ⟨_, _, _, _⟩ := sqY2 B0) | ((with_reducible refine sqc 105 rfl ?_); refine sqC (some 24) func105 #[.agg #[.int .i64 a0_0, .int .i64 a0_1]] ?_; (with_reducible refine (impl_untied.calls k a0_0 a0_1 t2 _ A11.1).mono ?_); refine sqV fun w17 hb => ?_; replace B0 := sqT B0 hb; replace HB := sqS (sqB1 HB E0) hb; (try clear hb)))
   go_ret
   exact ⟨Z16, sqB1 HB E0⟩
  obtain rfl := sqb c10
  rw [if_neg sqF] at H
  obtain rfl := sqo H
  go_enter func125, ntmps125
  go_wp2_with (first | ((with_reducible refine sqd 2 rfl ?_); refine sqBx w (sqB HB) (cs := #[.int .i64 a0_0, .int .i64 a0_1]) (t := 31) ?_; intro g0 hg w18 B0 E0 HB hb; clear hb hg; obtain ⟨_, _, _, _⟩ := sqY2 B0) | ((with_reducible refine sqc 104 rfl ?_); refine sqC (some 21) func104 #[.agg #[.int .i64 a0_0, .int .i64 a0_1], .int .i64 12] ?_; (with_reducible refine (impl_isSmall.calls k a0_0 a0_1 12 false _ A9.1).mono ?_); refine sqV fun w20 hb => ?_; replace B0 := sqT B0 hb; replace HB := sqS (sqB1 HB E0) hb; (try clear hb)))
  go_ret
  exact ⟨Z16, sqB1 HB E0⟩
 rw [if_neg c8] at H
 have c8b0 : (a1.toList == ([109, 111, 118, 101, 115] : List UInt8)) = false := sqe0 c8
 have c8b1 : (a1.toList != ([109, 111, 118, 101, 115] : List UInt8)) = true := sqn1 c8
 by_cases c21 : a1.toList = ([116, 101, 114, 109, 115] : List UInt8)
 ·rw [if_pos c21] at H
  have c21b0 : (a1.toList == ([116, 101, 114, 109, 115] : List UInt8)) = true := sqe1 c21
  have c21b1 : (a1.toList != ([116, 101, 114, 109, 115] : List UInt8)) = false := sqn0 c21
  clear c21
  obtain ⟨⟨t3, t4⟩, A22, H⟩ := sqD H
  try dsimp only at H
  by_cases c23 : t4 = true
  ·subst c23
   rw [if_pos rfl] at H
   obtain ⟨t5, A24, H⟩ := sqD H
   obtain rfl := sqo H
   go_enter func125, ntmps125
   go_wp2_with (first | ((with_reducible refine sqd 2 rfl ?_); refine sqBx w (sqB HB) (cs := #[.int .i64 a0_0, .int .i64 a0_1]) (t := 31) ?_; intro g0 hg w25 B0 E0 HB hb; clear hb hg; obtain ⟨_, _, _, _⟩ := sqY2 B0) | ((with_reducible refine sqc 142 rfl ?_); refine sqC (some 30) func142 #[.agg #[.int .i64 a0_0, .int .i64 a0_1]] ?_; (with_reducible refine (impl_TermsOf.calls k a0_0 a0_1 t3 true _ A22.1).mono ?_); rintro e w27 ⟨v0, rfl, ho0, hb⟩; refine ⟨_, rfl, ?_⟩; have O0 := sqL ho0 (sqB1 HB E0); replace B0 := sqT B0 hb; replace HB := sqS (sqB1 HB E0) hb; (try clear hb); (try clear ho0); obtain ⟨Ao28, co28, eo28⟩ := Kd.R_slice O0.1; subst eo28) | ((with_reducible refine sqc 143 rfl ?_); refine sqC (some 36) func143 #[.slice Ao28 t3.length co28] ?_; (with_reducible refine (impl_listText.calls k _ _ t3 t5 _ ?sideG ?side1 ?side2 A24.1).mono ?_); (case sideG => exact Z108 E0); (case side1 => exact Z29 O0); (case side2 => exact Z30 O0); refine sqV fun w29 hb => ?_; replace O0 := sqU O0 hb; replace B0 := sqT B0 hb; replace HB := sqS (sqB1 HB E0) hb; (try clear hb)))
   go_ret
   exact ⟨Z16, sqB1 HB E0⟩
  obtain rfl := sqb c23
  rw [if_neg sqF] at H
  obtain rfl := sqo H
  go_enter func125, ntmps125
  go_wp2_with (first | ((with_reducible refine sqd 2 rfl ?_); refine sqBx w (sqB HB) (cs := #[.int .i64 a0_0, .int .i64 a0_1]) (t := 31) ?_; intro g0 hg w30 B0 E0 HB hb; clear hb hg; obtain ⟨_, _, _, _⟩ := sqY2 B0) | ((with_reducible refine sqc 142 rfl ?_); refine sqC (some 30) func142 #[.agg #[.int .i64 a0_0, .int .i64 a0_1]] ?_; (with_reducible refine (impl_TermsOf.calls k a0_0 a0_1 t3 false _ A22.1).mono ?_); rintro e w32 ⟨v0, rfl, ho0, hb⟩; refine ⟨_, rfl, ?_⟩; have O0 := sqL ho0 (sqB1 HB E0); replace B0 := sqT B0 hb; replace HB := sqS (sqB1 HB E0) hb; (try clear hb); (try clear ho0)))
  go_ret
  exact ⟨Z16, sqB1 HB E0⟩
 rw [if_neg c21] at H
 have c21b0 : (a1.toList == ([116, 101, 114, 109, 115] : List UInt8)) = false := sqe0 c21
 have c21b1 : (a1.toList != ([116, 101, 114, 109, 115] : List UInt8)) = true := sqn1 c21
 by_cases c33 : a1.toList = ([99, 114, 111, 115, 115, 105, 110, 103, 115] : List UInt8)
 ·rw [if_pos c33] at H
  have c33b0 : (a1.toList == ([99, 114, 111, 115, 115, 105, 110, 103, 115] : List UInt8)) = true := sqe1 c33
  have c33b1 : (a1.toList != ([99, 114, 111, 115, 115, 105, 110, 103, 115] : List UInt8)) = false := sqn0 c33
  clear c33
  obtain ⟨t6, A34, H⟩ := sqD H
  obtain ⟨t7, A35, H⟩ := sqD H
  obtain rfl := sqo H
  go_enter func125, ntmps125
  go_wp2_with (first | ((with_reducible refine sqd 2 rfl ?_); refine sqBx w (sqB HB) (cs := #[.int .i64 a0_0, .int .i64 a0_1]) (t := 31) ?_; intro g0 hg w36 B0 E0 HB hb; clear hb hg; obtain ⟨_, _, _, _⟩ := sqY2 B0) | ((with_reducible refine sqc 145 rfl ?_); refine sqC (some 40) func145 #[.agg #[.int .i64 a0_0, .int .i64 a0_1]] ?_; (with_reducible refine (impl_CrossingsOf.calls k a0_0 a0_1 t6 _ A34.1).mono ?_); refine sqV fun w38 hb => ?_; replace B0 := sqT B0 hb; replace HB := sqS (sqB1 HB E0) hb; (try clear hb)) | ((with_reducible refine sqc 144 rfl ?_); refine sqC (some 41) func144 #[.int .i64 t6] ?_; (with_reducible refine (strconv_Itoa.calls t6 t7 _ ?sideG A35.1).mono ?_); (case sideG => exact Z108 E0); refine sqV fun w39 hb => ?_; replace B0 := sqT B0 hb; replace HB := sqS (sqB1 HB E0) hb; (try clear hb)))
  go_ret
  exact ⟨Z16, sqB1 HB E0⟩
 rw [if_neg c33] at H
 have c33b0 : (a1.toList == ([99, 114, 111, 115, 115, 105, 110, 103, 115] : List UInt8)) = false := sqe0 c33
 have c33b1 : (a1.toList != ([99, 114, 111, 115, 115, 105, 110, 103, 115] : List UInt8)) = true := sqn1 c33
 by_cases c40 : a1.toList = ([101, 110, 100, 115] : List UInt8)
 ·rw [if_pos c40] at H
  have c40b0 : (a1.toList == ([101, 110, 100, 115] : List UInt8)) = true := sqe1 c40
  have c40b1 : (a1.toList != ([101, 110, 100, 115] : List UInt8)) = false := sqn0 c40
  clear c40
  obtain ⟨t8, A41, H⟩ := sqD H
  obtain ⟨t9, A42, H⟩ := sqD H
  obtain rfl := sqo H
  go_enter func125, ntmps125
  go_wp2_with (first | ((with_reducible refine sqd 2 rfl ?_); refine sqBx w (sqB HB) (cs := #[.int .i64 a0_0, .int .i64 a0_1]) (t := 31) ?_; intro g0 hg w43 B0 E0 HB hb; clear hb hg; obtain ⟨_, _, _, _⟩ := sqY2 B0) | ((with_reducible refine sqc 146 rfl ?_); refine sqC (some 45) func146 #[.agg #[.int .i64 a0_0, .int .i64 a0_1]] ?_; (with_reducible refine (impl_EndsFor.calls k a0_0 a0_1 t8 _ A41.1).mono ?_); rintro e w45 ⟨v1, rfl, ho0, hb⟩; refine ⟨_, rfl, ?_⟩; have O1 := sqL ho0 (sqB1 HB E0); replace B0 := sqT B0 hb; replace HB := sqS (sqB1 HB E0) hb; (try clear hb); (try clear ho0); obtain ⟨Ao46, co46, eo46⟩ := Kd.R_slice O1.1; subst eo46) | ((with_reducible refine sqc 143 rfl ?_); refine sqC (some 46) func143 #[.slice Ao46 t8.length co46] ?_; (with_reducible refine (impl_listText.calls k _ _ t8 t9 _ ?sideG ?side1 ?side2 A42.1).mono ?_); (case sideG => exact Z108 E0); (case side1 => exact Z29 O1); (case side2 => exact Z30 O1); refine sqV fun w47 hb => ?_; replace O1 := sqU O1 hb; replace B0 := sqT B0 hb; replace HB := sqS (sqB1 HB E0) hb; (try clear hb)))
  go_ret
  exact ⟨Z16, sqB1 HB E0⟩
 rw [if_neg c40] at H
 have c40b0 : (a1.toList == ([101, 110, 100, 115] : List UInt8)) = false := sqe0 c40
 have c40b1 : (a1.toList != ([101, 110, 100, 115] : List UInt8)) = true := sqn1 c40
 by_cases c48 : a1.toList = ([114, 105, 110, 103, 115] : List UInt8)
 ·rw [if_pos c48] at H
  have c48b0 : (a1.toList == ([114, 105, 110, 103, 115] : List UInt8)) = true := sqe1 c48
  have c48b1 : (a1.toList != ([114, 105, 110, 103, 115] : List UInt8)) = false := sqn0 c48
  clear c48
  obtain ⟨t10, A49, H⟩ := sqD H
  obtain ⟨t11, A50, H⟩ := sqD H
  obtain rfl := sqo H
  go_enter func125, ntmps125
  go_wp2_with (first | ((with_reducible refine sqd 2 rfl ?_); refine sqBx w (sqB HB) (cs := #[.int .i64 a0_0, .int .i64 a0_1]) (t := 31) ?_; intro g0 hg w51 B0 E0 HB hb; clear hb hg; obtain ⟨_, _, _, _⟩ := sqY2 B0) | ((with_reducible refine sqc 147 rfl ?_); refine sqC (some 50) func147 #[.agg #[.int .i64 a0_0, .int .i64 a0_1]] ?_; (with_reducible refine (impl_RingsOf.calls k a0_0 a0_1 t10 _ A49.1).mono ?_); refine sqV fun w53 hb => ?_; replace B0 := sqT B0 hb; replace HB := sqS (sqB1 HB E0) hb; (try clear hb)) | ((with_reducible refine sqc 144 rfl ?_); refine sqC (some 51) func144 #[.int .i64 t10] ?_; (with_reducible refine (strconv_Itoa.calls t10 t11 _ ?sideG A50.1).mono ?_); (case sideG => exact Z108 E0); refine sqV fun w54 hb => ?_; replace B0 := sqT B0 hb; replace HB := sqS (sqB1 HB E0) hb; (try clear hb)))
  go_ret
  exact ⟨Z16, sqB1 HB E0⟩
 rw [if_neg c48] at H
 have c48b0 : (a1.toList == ([114, 105, 110, 103, 115] : List UInt8)) = false := sqe0 c48
 have c48b1 : (a1.toList != ([114, 105, 110, 103, 115] : List UInt8)) = true := sqn1 c48
 by_cases c55 : a1.toList = ([108, 105, 110, 107] : List UInt8)
 ·rw [if_pos c55] at H
  have c55b0 : (a1.toList == ([108, 105, 110, 107] : List UInt8)) = true := sqe1 c55
  have c55b1 : (a1.toList != ([108, 105, 110, 107] : List UInt8)) = false := sqn0 c55
  clear c55
  obtain ⟨⟨t12, t13, t14⟩, A56, H⟩ := sqD H
  try dsimp only at H
  by_cases c57 : t14 = true
  ·subst c57
   rw [if_pos rfl] at H
   obtain ⟨⟨t15, t16⟩, A58, H⟩ := sqD H
   try dsimp only at H
   obtain ⟨t17, A59, H⟩ := sqD H
   obtain ⟨c60, H⟩ := sqI H
   have c60b0 := eq_true c60
   have c60b1 : decide (t17.size + 1 ≤ 9223372036854775807) = true := decide_eq_true c60
   try have c60b2 : (9223372036854775807 < t17.size + 1) = False := eq_false (Nat.not_lt.2 c60)
   obtain ⟨t18, A61, H⟩ := sqD H
   obtain ⟨c62, H⟩ := sqI H
   have c62b0 := eq_true c62
   have c62b1 : decide ((t17 ++ (⟨#[58]⟩ : ByteArray)).size + t18.size ≤ 9223372036854775807) = true := decide_eq_true c62
   try have c62b2 : (9223372036854775807 < (t17 ++ (⟨#[58]⟩ : ByteArray)).size + t18.size) = False := eq_false (Nat.not_lt.2 c62)
   try have c62b7 : (9223372036854775807 < t17.size + 1 + t18.size) = False := by (have h_ := c62b2; (repeat rw [ByteArray.size_append] at h_); exact h_)
   obtain rfl := sqo H
   go_enter func125, ntmps125
   try go_wp2_with (first | ((with_reducible refine sqd 2 rfl ?_); refine sqBx w (sqB HB) (cs := #[.int .i64 a0_0, .int .i64 a0_1]) (t := 31) ?_; intro g0 hg w63 B0 E0 HB hb; clear hb hg; obtain ⟨_, _, _, _⟩ := sqY2 B0) | ((with_reducible refine sqc 148 rfl ?_); refine sqC (some 56) func148 #[.agg #[.int .i64 a0_0, .int .i64 a0_1]] ?_; (with_reducible refine (impl_linkOf.calls k a0_0 a0_1 t12 t13 true _ A56.1).mono ?_); refine sqV fun w65 hb => ?_; replace B0 := sqT B0 hb; replace HB := sqS (sqB1 HB E0) hb; (try clear hb)) | ((with_reducible refine sqd 7 rfl ?_); refine sqBx w (sqB1 HB E0) (cs := #[.int .i64 0, .int .i64 0]) (t := 116) ?_; intro g1 hg w66 B2 E1 HB hb; obtain ⟨N0, N1⟩ := sqM hg B0; replace B0 := sqT B0 hb; clear hb hg; have := N1.1; have := N0.1; obtain ⟨_, _, _, _⟩ := sqY2 B2) | ((with_reducible refine sqc 149 rfl ?_); refine sqC (some 62) func149 #[.agg #[.int .i64 t12, .int .i64 t13]] ?_; (with_reducible refine (impl_least.calls k t12 t13 t15 t16 _ A58.1).mono ?_); refine sqV fun w69 hb => ?_; replace B0 := sqH N0 B0 hb; replace B2 := sqa (blk_below (g := g1) (o := .cells #[.int .i64 t12, .int .i64 t13] 116 (0, 0)) (by refine sqPut (cs := #[.int .i64 t12, .int .i64 0]) ?_ 1; refine sqPut (cs := #[.int .i64 0, .int .i64 0]) ?_ 0; exact sqK B2) hb); replace HB := sqS (sqB2 HB E0 E1) hb; (try clear hb); obtain ⟨_, _, _, _⟩ := sqY2 B2))
   obtain ⟨w71, hw_⟩ : ∃ w_, (w69.setCell ⟨g1, 0, none⟩ (.int .i64 t15)).setCell ⟨g1, 1, none⟩ (.int .i64 t16) = w_ := ⟨_, rfl⟩
   replace B0 := sqJ hw_ N0 B0
   replace B2 : Aside0 (w71.heap[g1]? = some (.cells #[.int .i64 t15, .int .i64 t16] 116 (0, 0))) := by rw [← hw_]; exact ⟨by refine sqPut (cs := #[.int .i64 t15, .int .i64 t13]) ?_ 1; refine sqPut (cs := #[.int .i64 t12, .int .i64 t13]) ?_ 0; exact sqK B2⟩
   replace HB : Aside0 (Below w.heap.size w w71) := by rw [← hw_]; exact ⟨sqB2 HB E0 E1⟩
   rw [hw_]; clear hw_
   replace B0 := sqa (blk_drew B0.1)
   replace B2 := sqa (blk_drew B2.1)
   replace HB := sqa (below_drew1 HB.1)
   refine start_ (n := 9) (S := fun w' => w'.cell? ⟨g1, 0, none⟩ = some (.int .i64 t15) ∧ w'.cell? ⟨g1, 1, none⟩ = some (.int .i64 t16)) (ds := []) #[false, false, false, false, false, false, false, false, false] (by kernel_rfl) rfl rfl (sqk1 B2) (fun hHeld => ?_); refine with_tabW impl_asked.tab24 impl_asked.bits24 (fun HT_ HW_ => ?_)
   generalize w71.drew = w72 at B0 B2 HB hHeld ⊢
   refine sqP 0 (some 63) (h := ?_)
   refine sqP 4 (some 67) (h := ?_)
   refine sqQ 1 (some 64) hHeld (h := ?_)
   refine sqQ 5 (some 68) hHeld (h := ?_)
   refine one_ (i := 2) (N := some 65) #[true, true, true, false, true, true, false, false, false] rfl rfl (one_of HT_.out (by kernel_rfl)) (by decide) (fun K hK => ?_)
   refine goes_ func144 (by kernel_rfl) rfl #[.int .i64 t15] (by rfl) rfl rfl sqA ?_
   with_reducible refine (strconv_Itoa.calls t15 t17 _ ?sideG A59.1).mono ?_
   (case sideG => exact Z61 E0 E1)
   rintro e w73 ⟨rfl, hb⟩
   refine ⟨_, rfl, ?_⟩
   replace B0 := sqT B0 hb
   replace B2 := sqT B2 hb
   replace HB := sqS (sqB2 HB E0 E1) hb
   (try clear hb)
   (try clear hb2)
   (try clear hk)
   (try clear hi)
   refine hK.out _ _ (sqk1 B2) (fun hHeld => ?_)
   clear hK K
   refine sqN (some 65) ?_
   refine sqP 3 (some 66) (h := ?_)
   refine one_ (i := 6) (N := some 69) #[true, true, true, true, true, true, true, false, false] rfl rfl (one_of HT_.out (by kernel_rfl)) (by decide) (fun K hK => ?_)
   refine goes_ func144 (by kernel_rfl) rfl #[.int .i64 t16] (by rfl) rfl rfl sqA ?_
   with_reducible refine (strconv_Itoa.calls t16 t18 _ ?sideG A61.1).mono ?_
   (case sideG => exact Z61 E0 E1)
   rintro e w74 ⟨rfl, hb⟩
   refine ⟨_, rfl, ?_⟩
   replace B0 := sqT B0 hb
   replace B2 := sqT B2 hb
   replace HB := sqS (sqB2 HB E0 E1) hb
   (try clear hb)
   (try clear hb2)
   (try clear hk)
   (try clear hi)
   refine hK.out _ _ (sqk1 B2) (fun hHeld => ?_)
   clear hK K
   refine sqN (some 69) ?_
   refine sqP 7 (some 70) (h := ?_)
   refine sqP 8 (some 4) (h := ?_)
   refine done_ (done_of HT_.out (by kernel_rfl)) ?_
   try go_wp2
   go_ret
   exact ⟨Z16, sqB2 HB E0 E1⟩
  obtain rfl := sqb c57
  rw [if_neg sqF] at H
  obtain rfl := sqo H
  go_enter func125, ntmps125
  go_wp2_with (first | ((with_reducible refine sqd 2 rfl ?_); refine sqBx w (sqB HB) (cs := #[.int .i64 a0_0, .int .i64 a0_1]) (t := 31) ?_; intro g0 hg w75 B0 E0 HB hb; clear hb hg; obtain ⟨_, _, _, _⟩ := sqY2 B0) | ((with_reducible refine sqc 148 rfl ?_); refine sqC (some 56) func148 #[.agg #[.int .i64 a0_0, .int .i64 a0_1]] ?_; (with_reducible refine (impl_linkOf.calls k a0_0 a0_1 t12 t13 false _ A56.1).mono ?_); refine sqV fun w77 hb => ?_; replace B0 := sqT B0 hb; replace HB := sqS (sqB1 HB E0) hb; (try clear hb)) | ((with_reducible refine sqd 7 rfl ?_); refine sqBx w (sqB1 HB E0) (cs := #[.int .i64 0, .int .i64 0]) (t := 116) ?_; intro g1 hg w78 B2 E1 HB hb; obtain ⟨N0, N1⟩ := sqM hg B0; replace B0 := sqT B0 hb; clear hb hg; have := N1.1; have := N0.1; obtain ⟨_, _, _, _⟩ := sqY2 B2))
  go_ret
  exact ⟨Z16, sqB2 HB E0 E1⟩
 rw [if_neg c55] at H
 have c55b0 : (a1.toList == ([108, 105, 110, 107] : List UInt8)) = false := sqe0 c55
 have c55b1 : (a1.toList != ([108, 105, 110, 107] : List UInt8)) = true := sqn1 c55
 obtain ⟨⟨t19, t20⟩, A81, H⟩ := sqD H
 try dsimp only at H
 obtain ⟨⟨t21, t22⟩, A82, H⟩ := sqD H
 try dsimp only at H
 have HC83 := sqa H
 clear H
 go_enter func125, ntmps125
 go_upto_region 27 with (first | ((with_reducible refine sqd 2 rfl ?_); refine sqBx w (sqB HB) (cs := #[.int .i64 a0_0, .int .i64 a0_1]) (t := 31) ?_; intro g0 hg w84 B0 E0 HB hb; clear hb hg) | ((with_reducible refine sqc 150 rfl ?_); refine sqC (some 73) func150 #[.string a1, .string (⟨#[99, 111, 108, 111, 117, 114, 115, 32]⟩ : ByteArray)] ?_; (with_reducible refine (strings_CutPrefix.calls a1 (⟨#[99, 111, 108, 111, 117, 114, 115, 32]⟩ : ByteArray) t19 t20 _ A81.1).mono ?_); rintro e w' ⟨rfl, ⟨nd, rfl⟩⟩; refine ⟨_, rfl, ?_⟩) | ((with_reducible refine sqc 151 rfl ?_); refine sqC (some 78) func151 #[.string t19] ?_; (with_reducible refine (strconv_Atoi.calls t19 t21 t22 _ ?sideG A82.1).mono ?_); (case sideG => exact Z108 E0); rintro e w85 ⟨q_t0, hq_t0, rfl, hb⟩; refine ⟨_, rfl, ?_⟩; replace B0 := sqT B0 hb; replace HB := sqS (sqB1 HB E0) hb; (try clear hb); (try simp only [errP_none, errP_some])))
 (try simp only [Act.put, List.setIfInBounds_toArray, List.set_cons_zero, List.set_cons_succ])
 go_cut [100] (fun v2 wc => ∃ (kq : Nat) (x0 : Bool), v2 = .bool x0 ∧ Aside0 (impl_asked.j0 kq t21 x0 a0_0 a0_1 = some r) ∧ Aside0 (kq ≤ k) ∧ Aside0 (wc.heap[g0]? = some (.cells #[.int .i64 a0_0, .int .i64 a0_1] 31 (0, 0))) ∧ Aside0 (Below w.heap.size w wc))
 case first =>
  have H := HC83.1
  clear HC83
  by_cases c86 : t20 = true
  ·subst c86
   rw [if_pos rfl] at H
   rcases t22 with _ | q0
   ·obtain rfl := isNone_none hq_t0
    have H1 : (if t21 < 0 then (impl_asked.j0 k t21 true a0_0 a0_1) else (if t21 > 9999999 then (impl_asked.j0 k t21 true a0_0 a0_1) else ((strconv_Itoa.f t21).bind fun t23 => (impl_asked.j0 k t21 (t23.toList != t19.toList) a0_0 a0_1)))) = some r := by rw [if_pos (show (none : Option Int).isNone = true by rfl)] at H; exact H
    clear H
    have H := H1
    clear H1
    try simp only [errP_none, errP_some]
    by_cases c87 : t21 < 0
    ·rw [if_pos c87] at H
     have c87b0 : decide (t21 < 0) = true := decide_eq_true c87
     clear c87
     (first | rw [c87b0] | (simp only [i64_w, i32_w]; rw [c87b0]) | skip)
     have H' := sqa H
     clear H
     go_wp2
     go_meet
     case rel => exact ⟨_, (true), Z4, H', ⟨Z5⟩, ⟨sqK B0⟩, ⟨sqB1 HB E0⟩⟩
    rw [if_neg c87] at H
    have c87b0 : decide (t21 < 0) = false := decide_eq_false c87
    clear c87
    (first | rw [c87b0] | (simp only [i64_w, i32_w]; rw [c87b0]) | skip)
    by_cases c88 : t21 > 9999999
    ·rw [if_pos c88] at H
     have c88b0 : decide (9999999 < t21) = true := decide_eq_true c88
     clear c88
     have H' := sqa H
     clear H
     go_wp2
     go_meet
     case rel => exact ⟨_, (true), Z4, H', ⟨Z5⟩, ⟨sqK B0⟩, ⟨sqB1 HB E0⟩⟩
    rw [if_neg c88] at H
    have c88b0 : decide (9999999 < t21) = false := decide_eq_false c88
    clear c88
    obtain ⟨t23, A89, H⟩ := sqD H
    have H' := sqa H
    clear H
    go_wp2_with (first | (go_at_call 144; (with_reducible refine (strconv_Itoa.calls t21 t23 _ ?sideG A89.1).mono ?_); (case sideG => exact Z108 E0); rintro e w90 ⟨rfl, hb⟩; replace B0 := sqT B0 hb; replace HB := sqS (sqB1 HB E0) hb; (try clear hb)))
    go_meet
    case rel => exact ⟨_, ((t23.toList != t19.toList)), Z4, H', ⟨Z5⟩, ⟨sqK B0⟩, ⟨sqB1 HB E0⟩⟩
   ·obtain ⟨qz_, rfl⟩ := isNone_some hq_t0
    have H1 : (impl_asked.j0 k t21 true a0_0 a0_1) = some r := by rw [if_neg (show ¬ (some q0).isNone = true by simp)] at H; exact H
    clear H
    have H := H1
    clear H1
    try simp only [errP_none, errP_some]
    have H' := sqa H
    clear H
    go_wp2
    go_meet
    case rel => exact ⟨_, (true), Z4, H', ⟨Z5⟩, ⟨sqK B0⟩, ⟨sqB1 HB E0⟩⟩
  obtain rfl := sqb c86
  rw [if_neg sqF] at H
  have H' := sqa H
  clear H
  go_wp2
  go_meet
  case rel => exact ⟨_, (true), Z4, H', ⟨Z5⟩, ⟨sqK B0⟩, ⟨sqB1 HB E0⟩⟩
 case rest =>
  clear HC83
  obtain ⟨kq, x0, rfl, HA, HJ82, B0, HB⟩ := hcut
  cases kq with
  | zero => exact absurd HA.out (by simp [impl_asked.j0])
  | succ kj82 =>
   have H := HA.out
   clear HA
   simp only [impl_asked.j0] at H
   by_cases c91 : x0 = true
   ·subst c91
    rw [if_pos rfl] at H
    obtain rfl := sqo H
    go_wp2
    go_ret
    exact ⟨Z16, sqB1 HB E0⟩
   obtain rfl := sqb c91
   rw [if_neg sqF] at H
   have HC92 := sqa H
   clear H
   go_upto_region 29 with (fail)
   go_cut [106] (fun v3 wc => ∃ (kq : Nat) (x1 : Bool), v3 = .bool x1 ∧ Aside0 (impl_asked.j1 kq t21 x1 a0_0 a0_1 = some r) ∧ Aside0 (kq ≤ kj82) ∧ Aside0 (wc.heap[g0]? = some (.cells #[.int .i64 a0_0, .int .i64 a0_1] 31 (0, 0))) ∧ Aside0 (Below w.heap.size w wc))
   case first =>
    have H := HC92.1
    clear HC92
    by_cases c93 : t21 < 1
    ·rw [if_pos c93] at H
     have c93b0 : decide (t21 < 1) = true := decide_eq_true c93
     clear c93
     (first | rw [c93b0] | (simp only [i64_w, i32_w]; rw [c93b0]) | skip)
     have H' := sqa H
     clear H
     go_wp2
     go_meet
     case rel => exact ⟨_, (true), Z4, H', ⟨by have := HJ82.out; first | omega | exact Nat.le_refl _⟩, ⟨sqK B0⟩, ⟨sqB1 HB E0⟩⟩
    rw [if_neg c93] at H
    have c93b0 : decide (t21 < 1) = false := decide_eq_false c93
    clear c93
    (first | rw [c93b0] | (simp only [i64_w, i32_w]; rw [c93b0]) | skip)
    have H' := sqa H
    clear H
    go_wp2
    go_meet
    case rel => exact ⟨_, (decide (t21 > 12)), Z4, H', ⟨by have := HJ82.out; first | omega | exact Nat.le_refl _⟩, ⟨sqK B0⟩, ⟨sqB1 HB E0⟩⟩
   case rest =>
    clear HC92
    obtain ⟨kq, x1, rfl, HA, HJ91, B0, HB⟩ := hcut
    cases kq with
    | zero => exact absurd HA.out (by simp [impl_asked.j1])
    | succ kj91 =>
     have H := HA.out
     clear HA
     simp only [impl_asked.j1] at H
     by_cases c94 : x1 = true
     ·subst c94
      rw [if_pos rfl] at H
      obtain rfl := sqo H
      go_wp2
      go_ret
      exact ⟨Z16, sqB1 HB E0⟩
     obtain rfl := sqb c94
     rw [if_neg sqF] at H
     obtain ⟨t24, A95, H⟩ := sqD H
     obtain ⟨t25, A96, H⟩ := sqD H
     obtain rfl := sqo H
     obtain ⟨_, _, _, _⟩ := sqY2 B0
     go_wp2_with (first | ((with_reducible refine sqc 152 rfl ?_); refine sqC (some 109) func152 #[.agg #[.int .i64 a0_0, .int .i64 a0_1], .int .i64 t21] ?_; (with_reducible refine (impl_TiedFor.calls kj91 a0_0 a0_1 t21 t24 _ A95.1).mono ?_); refine sqV fun w98 hb => ?_; replace B0 := sqT B0 hb; replace HB := sqS (sqB1 HB E0) hb; (try clear hb)) | ((with_reducible refine sqc 144 rfl ?_); refine sqC (some 110) func144 #[.int .i64 t24] ?_; (with_reducible refine (strconv_Itoa.calls t24 t25 _ ?sideG A96.1).mono ?_); (case sideG => exact Z108 E0); refine sqV fun w99 hb => ?_; replace B0 := sqT B0 hb; replace HB := sqS (sqB1 HB E0) hb; (try clear hb)))
     go_ret
     exact ⟨Z16, sqB1 HB E0⟩

end Go.Proofs.YtofmlbgfcohhoaaGreatDoor.PFnExactDeskSay
