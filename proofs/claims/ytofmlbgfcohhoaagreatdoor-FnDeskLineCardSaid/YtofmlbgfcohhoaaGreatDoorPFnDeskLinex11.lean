import Derived.Test.YtofmlbgfcohhoaaGreatDoorPFnDeskLinex9
import Derived.Test.YtofmlbgfcohhoaaGreatDoorPFnDeskLinex6
set_option maxHeartbeats 8000000
set_option maxRecDepth 100000
namespace Go.Proofs.YtofmlbgfcohhoaaGreatDoor.PFnDeskLine
open Go.RowKit Go.Proofs.YtofmlbgfcohhoaaGreatDoorW.PrintWords Go.Proofs.YtofmlbgfcohhoaaGreatDoorW.PrintLast Go.Proofs.YtofmlbgfcohhoaaGreatDoorW.PrintMore Go.Proofs.YtofmlbgfcohhoaaGreatDoor.Lib Go.Proofs.Tryz
attribute [local go_sem] max2_int min2_int max_two min_two max_three min_three max_four min_four
set_option linter.unusedVariables false
set_option linter.unusedSimpArgs false

/-! ### impl_asked: function 125 -/
mutual
def impl_asked.j0 : Nat → Int → Bool → Int → Int → Option (ByteArray)
 | 0, _, _, _, _ => none
 | k + 1, x0, x1, x2, x3 => if x1 = true then (some (⟨#[119, 104, 97, 116]⟩ : ByteArray)) else (if x0 < 1 then (impl_asked.j1 k x0 true x2 x3) else (impl_asked.j1 k x0 (decide (x0 > 12)) x2 x3))
def impl_asked.j1 : Nat → Int → Bool → Int → Int → Option (ByteArray)
 | 0, _, _, _, _ => none
 | k + 1, x0, x1, x2, x3 => if x1 = true then (some (⟨#[110, 111, 110, 101]⟩ : ByteArray)) else ((impl_TiedFor.f k x2 x3 x0).bind fun t0 => ((strconv_Itoa.f t0).bind fun t1 => (some t1)))
end
def impl_asked.f (k : Nat) (a0_0 : Int) (a0_1 : Int) (a1 : ByteArray) : Option (ByteArray) := if a1.toList = ([116, 101, 120, 116] : List UInt8) then ((impl_fractionText.f a0_0 a0_1).bind fun t0 => (some t0)) else (if a1.toList = ([109, 111, 118, 101, 115] : List UInt8) then ((impl_isSmall.f k a0_0 a0_1 12).bind fun t1 => (if t1 = true then ((impl_untied.f k a0_0 a0_1).bind fun t2 => (if 1 + t2.size ≤ 9223372036854775807 then (some ((⟨#[58]⟩ : ByteArray) ++ t2)) else (none))) else (some (⟨#[110, 111, 110, 101]⟩ : ByteArray)))) else (if a1.toList = ([116, 101, 114, 109, 115] : List UInt8) then ((impl_TermsOf.f k a0_0 a0_1).bind fun bt0 => (if bt0.2 = true then ((impl_listText.f k bt0.1).bind fun t3 => (some t3)) else (some (⟨#[110, 111, 110, 101]⟩ : ByteArray)))) else (if a1.toList = ([99, 114, 111, 115, 115, 105, 110, 103, 115] : List UInt8) then ((impl_CrossingsOf.f k a0_0 a0_1).bind fun t4 => ((strconv_Itoa.f t4).bind fun t5 => (some t5))) else (if a1.toList = ([101, 110, 100, 115] : List UInt8) then ((impl_EndsFor.f k a0_0 a0_1).bind fun t6 => ((impl_listText.f k t6).bind fun t7 => (some t7))) else (if a1.toList = ([114, 105, 110, 103, 115] : List UInt8) then ((impl_RingsOf.f k a0_0 a0_1).bind fun t8 => ((strconv_Itoa.f t8).bind fun t9 => (some t9))) else (if a1.toList = ([108, 105, 110, 107] : List UInt8) then ((impl_linkOf.f k a0_0 a0_1).bind fun bt1 => (if bt1.2.2 = true then ((impl_least.f k bt1.1 bt1.2.1).bind fun bt2 => ((strconv_Itoa.f bt2.1).bind fun t10 => (if t10.size + 1 ≤ 9223372036854775807 then ((strconv_Itoa.f bt2.2).bind fun t11 => (if (t10 ++ (⟨#[58]⟩ : ByteArray)).size + t11.size ≤ 9223372036854775807 then (some ((t10 ++ (⟨#[58]⟩ : ByteArray)) ++ t11)) else (none))) else (none)))) else (some (⟨#[110, 111, 110, 101]⟩ : ByteArray)))) else ((strings_CutPrefix.f a1 (⟨#[99, 111, 108, 111, 117, 114, 115, 32]⟩ : ByteArray)).bind fun bt3 => ((strconv_Atoi.f bt3.1).bind fun bt4 => (if bt3.2 = true then (if bt4.2.isNone = true then (if bt4.1 < 0 then (impl_asked.j0 k bt4.1 true a0_0 a0_1) else (if bt4.1 > 9999999 then (impl_asked.j0 k bt4.1 true a0_0 a0_1) else ((strconv_Itoa.f bt4.1).bind fun t12 => (impl_asked.j0 k bt4.1 (t12.toList != bt3.1.toList) a0_0 a0_1)))) else (impl_asked.j0 k bt4.1 true a0_0 a0_1)) else (impl_asked.j0 k bt4.1 true a0_0 a0_1))))))))))
abbrev impl_asked.M (k : Nat) : Prop := (∀ y0 y1 y2 y3, LeO (impl_asked.j0 k y0 y1 y2 y3) (impl_asked.j0 (k + 1) y0 y1 y2 y3)) ∧ (∀ y0 y1 y2 y3, LeO (impl_asked.j1 k y0 y1 y2 y3) (impl_asked.j1 (k + 1) y0 y1 y2 y3))
theorem impl_asked.mono_t : ∀ k, impl_asked.M k → impl_asked.M (k + 1) ∧ ∀ a0 a1 a2, LeO (impl_asked.f k a0 a1 a2) (impl_asked.f (k + 1) a0 a1 a2) := by
  rintro k ⟨ih0, ih1⟩
  refine ⟨⟨?_, ?_⟩, ?_⟩ <;> intros <;> (first | unfold impl_asked.j0 | unfold impl_asked.j1 | unfold impl_asked.f) <;> repeat' (with_reducible first | exact ih0 _ _ _ _ | exact ih1 _ _ _ _ | exact impl_CrossingsOf.mono _ _ _ | exact impl_EndsFor.mono _ _ _ | exact impl_RingsOf.mono _ _ _ | exact impl_TermsOf.mono _ _ _ | exact impl_TiedFor.mono _ _ _ _ | exact impl_isSmall.mono _ _ _ _ | exact impl_least.mono _ _ _ | exact impl_linkOf.mono _ _ _ | exact impl_listText.mono _ _ | exact impl_untied.mono _ _ _ | exact LeO.refl _ | exact LeO.none _ | refine LeO.ite ?_ ?_ | refine LeO.bind ?_ fun _ => ?_)
theorem impl_asked.mono_l : ∀ k, impl_asked.M k
 | 0 => ⟨fun _ _ _ _ r h => by simp [impl_asked.j0] at h, fun _ _ _ _ r h => by simp [impl_asked.j1] at h⟩
 | k + 1 => (impl_asked.mono_t k (impl_asked.mono_l k)).1
theorem impl_asked.mono a0 a1 a2 k : LeO (impl_asked.f k a0 a1 a2) (impl_asked.f (k + 1) a0 a1 a2) := (impl_asked.mono_t k (impl_asked.mono_l k)).2 a0 a1 a2
def impl_asked.T24 : Bool × List (List Nat × List Nat) := (true, [([], []), ([0], [0]), ([1], [1]), ([2], [2]), ([], []), ([4], [4]), ([5, 2], [5]), ([3, 6], [3, 6]), ([7, 6, 0, 1, 2, 3, 4, 5, 6, 7], [7])])
def impl_asked.B24 : List Nat := [0, 1, 3, 7, 0, 16, 55, 127, 255]
theorem impl_asked.tab24 : rtab .any (opsOf f125 24) = impl_asked.T24 := by kernel_rfl
theorem impl_asked.bits24 : waitsOk impl_asked.T24.2 impl_asked.B24 = true := by kernel_rfl
theorem impl_asked.calls (k : Nat) (a0_0 : Int) (a0_1 : Int) (a1 : ByteArray) (r : ByteArray) (w : World) (hG : Glob w) (H : impl_asked.f k a0_0 a0_1 a1 = some r) :
  Calls prog 125 #[.agg #[.int .i64 a0_0, .int .i64 a0_1], .string a1] w fun e w' => e = .returned (.string r) ∧ Below w.heap.size w w' := by
 have hu31 := underlying31
 have hu116 := underlying116
 have hu150 := underlying150
 have HB := sqh w
 unfold impl_asked.f at H
 by_cases c3 : a1.toList = ([116, 101, 120, 116] : List UInt8)
 ·rw [if_pos c3] at H
  have c3b0 : (a1.toList == ([116, 101, 120, 116] : List UInt8)) = true := sqe1 c3
  have c3b1 : (a1.toList != ([116, 101, 120, 116] : List UInt8)) = false := sqn0 c3
  clear c3
  obtain ⟨t0, A4, H⟩ := sqD H
  obtain rfl := sqo H
  go_enter func125, ntmps125
  go_wp2_with (first | ((with_reducible refine sqd 2 rfl ?_); refine sqBx w (sqB HB) (cs := #[.int .i64 a0_0, .int .i64 a0_1]) (t := 31) ?_; intro g0 hg w5 B0 E0 HB hb; clear hb hg; obtain ⟨_, _, _, _⟩ := sqY2 B0) | ((with_reducible refine sqc 141 rfl ?_); refine sqC (some 17) func141 #[.agg #[.int .i64 a0_0, .int .i64 a0_1]] ?_; (with_reducible refine (impl_fractionText.calls a0_0 a0_1 t0 _ ?sideG A4.1).mono ?_); (case sideG => exact Z6 E0); refine sqV fun w7 hb => ?_; replace B0 := sqT B0 hb; replace HB := sqS (sqB1 HB E0) hb))
  go_ret
  exact ⟨Z5, sqB1 HB E0⟩
 rw [if_neg c3] at H
 have c3b0 : (a1.toList == ([116, 101, 120, 116] : List UInt8)) = false := sqe0 c3
 have c3b1 : (a1.toList != ([116, 101, 120, 116] : List UInt8)) = true := sqn1 c3
 by_cases c8 : a1.toList = ([109, 111, 118, 101, 115] : List UInt8)
 ·rw [if_pos c8] at H
  have c8b0 : (a1.toList == ([109, 111, 118, 101, 115] : List UInt8)) = true := sqe1 c8
  have c8b1 : (a1.toList != ([109, 111, 118, 101, 115] : List UInt8)) = false := sqn0 c8
  clear c8
  obtain ⟨t1, A9, H⟩ := sqD H
  by_cases c10 : t1 = true
  ·subst c10
   rw [if_pos rfl] at H
   obtain ⟨t2, A0, H⟩ := sqD H
   obtain ⟨c0, H⟩ := sqI H
   have c1 := eq_true c0
   have c2 : decide (1 + t2.size ≤ 9223372036854775807) = true := decide_eq_true c0
   try have c4 : (9223372036854775807 < 1 + t2.size) = False := eq_false (Nat.not_lt.2 c0)
   obtain rfl := sqo H
   go_enter func125, ntmps125
   go_wp2_with (first | ((with_reducible refine sqd 2 rfl ?_); refine sqBx w (sqB HB) (cs := #[.int .i64 a0_0, .int .i64 a0_1]) (t := 31) ?_; intro g0 hg w0 B0 E0 HB hb; clear hb hg; obtain ⟨_, _, _, _⟩ := sqY2 B0) | ((with_reducible refine sqc 104 rfl ?_); refine sqC (some 21) func104 #[.agg #[.int .i64 a0_0, .int .i64 a0_1], .int .i64 12] ?_; (with_reducible refine (impl_isSmall.calls k a0_0 a0_1 12 true _ A9.1).mono ?_); refine sqV fun w1 hb => ?_; replace B0 := sqT B0 hb; replace HB := sqS (sqB1 HB E0) hb; obtain ⟨_, _, _, _⟩ := sqY2 B0) | ((with_reducible refine sqc 105 rfl ?_); refine sqC (some 24) func105 #[.agg #[.int .i64 a0_0, .int .i64 a0_1]] ?_; (with_reducible refine (impl_untied.calls k a0_0 a0_1 t2 _ A0.1).mono ?_); refine sqV fun w2 hb => ?_; replace B0 := sqT B0 hb; replace HB := sqS (sqB1 HB E0) hb))
   go_ret
   exact ⟨Z5, sqB1 HB E0⟩
  obtain rfl := sqb c10
  rw [if_neg sqF] at H
  obtain rfl := sqo H
  go_enter func125, ntmps125
  go_wp2_with (first | ((with_reducible refine sqd 2 rfl ?_); refine sqBx w (sqB HB) (cs := #[.int .i64 a0_0, .int .i64 a0_1]) (t := 31) ?_; intro g0 hg w3 B0 E0 HB hb; clear hb hg; obtain ⟨_, _, _, _⟩ := sqY2 B0) | ((with_reducible refine sqc 104 rfl ?_); refine sqC (some 21) func104 #[.agg #[.int .i64 a0_0, .int .i64 a0_1], .int .i64 12] ?_; (with_reducible refine (impl_isSmall.calls k a0_0 a0_1 12 false _ A9.1).mono ?_); refine sqV fun w4 hb => ?_; replace B0 := sqT B0 hb; replace HB := sqS (sqB1 HB E0) hb))
  go_ret
  exact ⟨Z5, sqB1 HB E0⟩
 rw [if_neg c8] at H
 have c8b0 : (a1.toList == ([109, 111, 118, 101, 115] : List UInt8)) = false := sqe0 c8
 have c8b1 : (a1.toList != ([109, 111, 118, 101, 115] : List UInt8)) = true := sqn1 c8
 by_cases c21 : a1.toList = ([116, 101, 114, 109, 115] : List UInt8)
 ·rw [if_pos c21] at H
  have c5 := sqe1 c21
  have c6 := sqn0 c21
  clear c21
  obtain ⟨⟨t3, t4⟩, A1, H⟩ := sqD H
  try dsimp only at H
  by_cases c7 : t4 = true
  ·subst c7
   rw [if_pos rfl] at H
   obtain ⟨t5, A2, H⟩ := sqD H
   obtain rfl := sqo H
   go_enter func125, ntmps125
   go_wp2_with (first | ((with_reducible refine sqd 2 rfl ?_); refine sqBx w (sqB HB) (cs := #[.int .i64 a0_0, .int .i64 a0_1]) (t := 31) ?_; intro g0 hg w6 B0 E0 HB hb; clear hb hg; obtain ⟨_, _, _, _⟩ := sqY2 B0) | ((with_reducible refine sqc 142 rfl ?_); refine sqC (some 30) func142 #[.agg #[.int .i64 a0_0, .int .i64 a0_1]] ?_; (with_reducible refine (impl_TermsOf.calls k a0_0 a0_1 t3 true _ A1.1).mono ?_); rintro e w8 ⟨v0, rfl, ho0, hb⟩; refine ⟨_, rfl, ?_⟩; have O0 := sqL ho0 (sqB1 HB E0); replace B0 := sqT B0 hb; replace HB := sqS (sqB1 HB E0) hb; (try clear ho0); obtain ⟨Ao0, co0, eo0⟩ := Kd.R_slice O0.1; subst eo0) | ((with_reducible refine sqc 143 rfl ?_); refine sqC (some 36) func143 #[.slice Ao0 t3.length co0] ?_; (with_reducible refine (impl_listText.calls k _ _ t3 t5 _ ?sideG ?side1 ?side2 A2.1).mono ?_); (case sideG => exact Z6 E0); (case side1 => exact Z7 O0); (case side2 => exact Z8 O0); refine sqV fun w9 hb => ?_; replace O0 := sqU O0 hb; replace B0 := sqT B0 hb; replace HB := sqS (sqB1 HB E0) hb))
   go_ret
   exact ⟨Z5, sqB1 HB E0⟩
  obtain rfl := sqb c7
  rw [if_neg sqF] at H
  obtain rfl := sqo H
  go_enter func125, ntmps125
  go_wp2_with (first | ((with_reducible refine sqd 2 rfl ?_); refine sqBx w (sqB HB) (cs := #[.int .i64 a0_0, .int .i64 a0_1]) (t := 31) ?_; intro g0 hg w30 B0 E0 HB hb; clear hb hg; obtain ⟨_, _, _, _⟩ := sqY2 B0) | ((with_reducible refine sqc 142 rfl ?_); refine sqC (some 30) func142 #[.agg #[.int .i64 a0_0, .int .i64 a0_1]] ?_; (with_reducible refine (impl_TermsOf.calls k a0_0 a0_1 t3 false _ A1.1).mono ?_); rintro e w32 ⟨v0, rfl, ho0, hb⟩; refine ⟨_, rfl, ?_⟩; have O0 := sqL ho0 (sqB1 HB E0); replace B0 := sqT B0 hb; replace HB := sqS (sqB1 HB E0) hb; (try clear ho0)))
  go_ret
  exact ⟨Z5, sqB1 HB E0⟩
 rw [if_neg c21] at H
 have c5 := sqe0 c21
 have c6 := sqn1 c21
 by_cases c9 : a1.toList = ([99, 114, 111, 115, 115, 105, 110, 103, 115] : List UInt8)
 ·rw [if_pos c9] at H
  have c11 := sqe1 c9
  have c13 := sqn0 c9
  clear c9
  obtain ⟨t6, A3, H⟩ := sqD H
  obtain ⟨t7, A5, H⟩ := sqD H
  obtain rfl := sqo H
  go_enter func125, ntmps125
  go_wp2_with (first | ((with_reducible refine sqd 2 rfl ?_); refine sqBx w (sqB HB) (cs := #[.int .i64 a0_0, .int .i64 a0_1]) (t := 31) ?_; intro g0 hg w36 B0 E0 HB hb; clear hb hg; obtain ⟨_, _, _, _⟩ := sqY2 B0) | ((with_reducible refine sqc 145 rfl ?_); refine sqC (some 40) func145 #[.agg #[.int .i64 a0_0, .int .i64 a0_1]] ?_; (with_reducible refine (impl_CrossingsOf.calls k a0_0 a0_1 t6 _ A3.1).mono ?_); refine sqV fun w38 hb => ?_; replace B0 := sqT B0 hb; replace HB := sqS (sqB1 HB E0) hb) | ((with_reducible refine sqc 144 rfl ?_); refine sqC (some 41) func144 #[.int .i64 t6] ?_; (with_reducible refine (strconv_Itoa.calls t6 t7 _ ?sideG A5.1).mono ?_); (case sideG => exact Z6 E0); refine sqV fun w39 hb => ?_; replace B0 := sqT B0 hb; replace HB := sqS (sqB1 HB E0) hb))
  go_ret
  exact ⟨Z5, sqB1 HB E0⟩
 rw [if_neg c9] at H
 have c11 := sqe0 c9
 have c13 := sqn1 c9
 by_cases c40 : a1.toList = ([101, 110, 100, 115] : List UInt8)
 ·rw [if_pos c40] at H
  have c15 := sqe1 c40
  have c16 := sqn0 c40
  clear c40
  obtain ⟨t8, A6, H⟩ := sqD H
  obtain ⟨t9, A7, H⟩ := sqD H
  obtain rfl := sqo H
  go_enter func125, ntmps125
  go_wp2_with (first | ((with_reducible refine sqd 2 rfl ?_); refine sqBx w (sqB HB) (cs := #[.int .i64 a0_0, .int .i64 a0_1]) (t := 31) ?_; intro g0 hg w43 B0 E0 HB hb; clear hb hg; obtain ⟨_, _, _, _⟩ := sqY2 B0) | ((with_reducible refine sqc 146 rfl ?_); refine sqC (some 45) func146 #[.agg #[.int .i64 a0_0, .int .i64 a0_1]] ?_; (with_reducible refine (impl_EndsFor.calls k a0_0 a0_1 t8 _ A6.1).mono ?_); rintro e w45 ⟨v1, rfl, ho0, hb⟩; refine ⟨_, rfl, ?_⟩; have O1 := sqL ho0 (sqB1 HB E0); replace B0 := sqT B0 hb; replace HB := sqS (sqB1 HB E0) hb; (try clear ho0); obtain ⟨Ao1, co1, eo1⟩ := Kd.R_slice O1.1; subst eo1) | ((with_reducible refine sqc 143 rfl ?_); refine sqC (some 46) func143 #[.slice Ao1 t8.length co1] ?_; (with_reducible refine (impl_listText.calls k _ _ t8 t9 _ ?sideG ?side1 ?side2 A7.1).mono ?_); (case sideG => exact Z6 E0); (case side1 => exact Z7 O1); (case side2 => exact Z8 O1); refine sqV fun w47 hb => ?_; replace O1 := sqU O1 hb; replace B0 := sqT B0 hb; replace HB := sqS (sqB1 HB E0) hb))
  go_ret
  exact ⟨Z5, sqB1 HB E0⟩
 rw [if_neg c40] at H
 have c15 := sqe0 c40
 have c16 := sqn1 c40
 by_cases c48 : a1.toList = ([114, 105, 110, 103, 115] : List UInt8)
 ·rw [if_pos c48] at H
  have c18 := sqe1 c48
  have c19 := sqn0 c48
  clear c48
  obtain ⟨t10, A8, H⟩ := sqD H
  obtain ⟨t11, A50, H⟩ := sqD H
  obtain rfl := sqo H
  go_enter func125, ntmps125
  go_wp2_with (first | ((with_reducible refine sqd 2 rfl ?_); refine sqBx w (sqB HB) (cs := #[.int .i64 a0_0, .int .i64 a0_1]) (t := 31) ?_; intro g0 hg w51 B0 E0 HB hb; clear hb hg; obtain ⟨_, _, _, _⟩ := sqY2 B0) | ((with_reducible refine sqc 147 rfl ?_); refine sqC (some 50) func147 #[.agg #[.int .i64 a0_0, .int .i64 a0_1]] ?_; (with_reducible refine (impl_RingsOf.calls k a0_0 a0_1 t10 _ A8.1).mono ?_); refine sqV fun w53 hb => ?_; replace B0 := sqT B0 hb; replace HB := sqS (sqB1 HB E0) hb) | ((with_reducible refine sqc 144 rfl ?_); refine sqC (some 51) func144 #[.int .i64 t10] ?_; (with_reducible refine (strconv_Itoa.calls t10 t11 _ ?sideG A50.1).mono ?_); (case sideG => exact Z6 E0); refine sqV fun w54 hb => ?_; replace B0 := sqT B0 hb; replace HB := sqS (sqB1 HB E0) hb))
  go_ret
  exact ⟨Z5, sqB1 HB E0⟩
 rw [if_neg c48] at H
 have c18 := sqe0 c48
 have c19 := sqn1 c48
 by_cases c55 : a1.toList = ([108, 105, 110, 107] : List UInt8)
 ·rw [if_pos c55] at H
  have c22 := sqe1 c55
  have c24 := sqn0 c55
  clear c55
  obtain ⟨⟨t12, t13, t14⟩, A56, H⟩ := sqD H
  try dsimp only at H
  by_cases c57 : t14 = true
  ·subst c57
   rw [if_pos rfl] at H
   obtain ⟨⟨t15, t16⟩, A58, H⟩ := sqD H
   try dsimp only at H
   obtain ⟨t17, A59, H⟩ := sqD H
   obtain ⟨c60, H⟩ := sqI H
   have c27 := eq_true c60
   have c28 : decide (t17.size + 1 ≤ 9223372036854775807) = true := decide_eq_true c60
   try have c29 : (9223372036854775807 < t17.size + 1) = False := eq_false (Nat.not_lt.2 c60)
   obtain ⟨t18, A61, H⟩ := sqD H
   obtain ⟨c62, H⟩ := sqI H
   have c31 := eq_true c62
   have c32 : decide ((t17 ++ (⟨#[58]⟩ : ByteArray)).size + t18.size ≤ 9223372036854775807) = true := decide_eq_true c62
   try have c34 : (9223372036854775807 < (t17 ++ (⟨#[58]⟩ : ByteArray)).size + t18.size) = False := eq_false (Nat.not_lt.2 c62)
   try have c35 : (9223372036854775807 < t17.size + 1 + t18.size) = False := by (have h_ := c34; (repeat rw [ByteArray.size_append] at h_); exact h_)
   obtain rfl := sqo H
   go_enter func125, ntmps125
   try go_wp2_with (first | ((with_reducible refine sqd 2 rfl ?_); refine sqBx w (sqB HB) (cs := #[.int .i64 a0_0, .int .i64 a0_1]) (t := 31) ?_; intro g0 hg w63 B0 E0 HB hb; clear hb hg; obtain ⟨_, _, _, _⟩ := sqY2 B0) | ((with_reducible refine sqc 148 rfl ?_); refine sqC (some 56) func148 #[.agg #[.int .i64 a0_0, .int .i64 a0_1]] ?_; (with_reducible refine (impl_linkOf.calls k a0_0 a0_1 t12 t13 true _ A56.1).mono ?_); refine sqV fun w65 hb => ?_; replace B0 := sqT B0 hb; replace HB := sqS (sqB1 HB E0) hb) | ((with_reducible refine sqd 7 rfl ?_); refine sqBx w (sqB1 HB E0) (cs := #[.int .i64 0, .int .i64 0]) (t := 116) ?_; intro g1 hg w66 B2 E1 HB hb; obtain ⟨N0, N1⟩ := sqM hg B0; replace B0 := sqT B0 hb; clear hb hg; have := N1.1; have := N0.1; obtain ⟨_, _, _, _⟩ := sqY2 B2) | ((with_reducible refine sqc 149 rfl ?_); refine sqC (some 62) func149 #[.agg #[.int .i64 t12, .int .i64 t13]] ?_; (with_reducible refine (impl_least.calls k t12 t13 t15 t16 _ A58.1).mono ?_); refine sqV fun w69 hb => ?_; replace B0 := sqH N0 B0 hb; replace B2 := sqa (blk_below (g := g1) (o := .cells #[.int .i64 t12, .int .i64 t13] 116 (0, 0)) (by refine sqPut (cs := #[.int .i64 t12, .int .i64 0]) ?_ 1; refine sqPut (cs := #[.int .i64 0, .int .i64 0]) ?_ 0; exact sqK B2) hb); replace HB := sqS (sqB2 HB E0 E1) hb; obtain ⟨_, _, _, _⟩ := sqY2 B2))
   obtain ⟨w71, hw_⟩ : ∃ w_, (w69.setCell ⟨g1, 0, none⟩ (.int .i64 t15)).setCell ⟨g1, 1, none⟩ (.int .i64 t16) = w_ := ⟨_, rfl⟩
   replace B0 := sqJ hw_ N0 B0
   replace B2 : Aside0 (w71.heap[g1]? = some (.cells #[.int .i64 t15, .int .i64 t16] 116 (0, 0))) := by rw [← hw_]; exact ⟨by refine sqPut (cs := #[.int .i64 t15, .int .i64 t13]) ?_ 1; refine sqPut (cs := #[.int .i64 t12, .int .i64 t13]) ?_ 0; exact sqK B2⟩
   replace HB : Aside0 (Below w.heap.size w w71) := by rw [← hw_]; exact ⟨sqB2 HB E0 E1⟩
   rw [hw_]; clear hw_
   replace B0 := sqa (blk_drew B0.1)
   replace B2 := sqa (blk_drew B2.1)
   replace HB := sqa (below_drew1 HB.1)
   refine start_ (n := 9) (S := fun w' => w'.cell? ⟨g1, 0, none⟩ = some (.int .i64 t15) ∧ w'.cell? ⟨g1, 1, none⟩ = some (.int .i64 t16)) (ds := []) #[false, false, false, false, false, false, false, false, false] (by kernel_rfl) rfl rfl (sqk1 B2) (fun hHeld => ?_); refine with_tabW impl_asked.tab24 impl_asked.bits24 (fun HT_ HW_ => ?_)
   generalize w71.drew = w72 at B0 B2 HB hHeld ⊢
   refine sqP 0 (some 63) (h := ?_)
   refine sqP 4 (some 67) (h := ?_)
   refine sqQ 1 (some 64) hHeld (h := ?_)
   refine sqQ 5 (some 68) hHeld (h := ?_)
   refine sq1 2 (some 65) (h := fun K hK => ?_)
   refine sqg func144 #[.int .i64 t15] ?_
   with_reducible refine (strconv_Itoa.calls t15 t17 _ ?sideG A59.1).mono ?_
   (case sideG => exact Z10 E0 E1)
   rintro e w73 ⟨rfl, hb⟩
   refine ⟨_, rfl, ?_⟩
   replace B0 := sqT B0 hb
   replace B2 := sqT B2 hb
   replace HB := sqS (sqB2 HB E0 E1) hb
   refine hK.out _ _ (sqk1 B2) (fun hHeld => ?_)
   clear hK K
   refine sqN (some 65) ?_
   refine sqP 3 (some 66) (h := ?_)
   refine sq1 6 (some 69) (h := fun K hK => ?_)
   refine sqg func144 #[.int .i64 t16] ?_
   with_reducible refine (strconv_Itoa.calls t16 t18 _ ?sideG A61.1).mono ?_
   (case sideG => exact Z10 E0 E1)
   rintro e w74 ⟨rfl, hb⟩
   refine ⟨_, rfl, ?_⟩
   replace B0 := sqT B0 hb
   replace B2 := sqT B2 hb
   replace HB := sqS (sqB2 HB E0 E1) hb
   refine hK.out _ _ (sqk1 B2) (fun hHeld => ?_)
   clear hK K
   refine sqN (some 69) ?_
   refine sqP 7 (some 70) (h := ?_)
   refine sqP 8 (some 4) (h := ?_)
   refine done_ (done_of HT_.out (by kernel_rfl)) ?_
   try go_wp2
   go_ret
   exact ⟨Z5, sqB2 HB E0 E1⟩
  obtain rfl := sqb c57
  rw [if_neg sqF] at H
  obtain rfl := sqo H
  go_enter func125, ntmps125
  go_wp2_with (first | ((with_reducible refine sqd 2 rfl ?_); refine sqBx w (sqB HB) (cs := #[.int .i64 a0_0, .int .i64 a0_1]) (t := 31) ?_; intro g0 hg w75 B0 E0 HB hb; clear hb hg; obtain ⟨_, _, _, _⟩ := sqY2 B0) | ((with_reducible refine sqc 148 rfl ?_); refine sqC (some 56) func148 #[.agg #[.int .i64 a0_0, .int .i64 a0_1]] ?_; (with_reducible refine (impl_linkOf.calls k a0_0 a0_1 t12 t13 false _ A56.1).mono ?_); refine sqV fun w77 hb => ?_; replace B0 := sqT B0 hb; replace HB := sqS (sqB1 HB E0) hb) | ((with_reducible refine sqd 7 rfl ?_); refine sqBx w (sqB1 HB E0) (cs := #[.int .i64 0, .int .i64 0]) (t := 116) ?_; intro g1 hg w78 B2 E1 HB hb; obtain ⟨N0, N1⟩ := sqM hg B0; replace B0 := sqT B0 hb; clear hb hg; have := N1.1; have := N0.1; obtain ⟨_, _, _, _⟩ := sqY2 B2))
  go_ret
  exact ⟨Z5, sqB2 HB E0 E1⟩
 rw [if_neg c55] at H
 have c22 := sqe0 c55
 have c24 := sqn1 c55
 obtain ⟨⟨t19, t20⟩, A81, H⟩ := sqD H
 try dsimp only at H
 obtain ⟨⟨t21, t22⟩, A82, H⟩ := sqD H
 try dsimp only at H
 have HC0 := sqa H
 clear H
 go_enter func125, ntmps125
 go_upto_region 27 with (first | ((with_reducible refine sqd 2 rfl ?_); refine sqBx w (sqB HB) (cs := #[.int .i64 a0_0, .int .i64 a0_1]) (t := 31) ?_; intro g0 hg w84 B0 E0 HB hb; clear hb hg) | ((with_reducible refine sqc 150 rfl ?_); refine sqC (some 73) func150 #[.string a1, .string (⟨#[99, 111, 108, 111, 117, 114, 115, 32]⟩ : ByteArray)] ?_; (with_reducible refine (strings_CutPrefix.calls a1 (⟨#[99, 111, 108, 111, 117, 114, 115, 32]⟩ : ByteArray) t19 t20 _ A81.1).mono ?_); rintro e w' ⟨rfl, ⟨nd, rfl⟩⟩; refine ⟨_, rfl, ?_⟩) | ((with_reducible refine sqc 151 rfl ?_); refine sqC (some 78) func151 #[.string t19] ?_; (with_reducible refine (strconv_Atoi.calls t19 t21 t22 _ ?sideG A82.1).mono ?_); (case sideG => exact Z6 E0); rintro e w85 ⟨q_t0, hq_t0, rfl, hb⟩; refine ⟨_, rfl, ?_⟩; replace B0 := sqT B0 hb; replace HB := sqS (sqB1 HB E0) hb; (try simp only [errP_none, errP_some])))
 (try simp only [Act.put, List.setIfInBounds_toArray, List.set_cons_zero, List.set_cons_succ])
 go_cut [100] (fun v2 wc => ∃ (kq : Nat) (x0 : Bool), v2 = .bool x0 ∧ Aside0 (impl_asked.j0 kq t21 x0 a0_0 a0_1 = some r) ∧ Aside0 (kq ≤ k) ∧ Aside0 (wc.heap[g0]? = some (.cells #[.int .i64 a0_0, .int .i64 a0_1] 31 (0, 0))) ∧ Aside0 (Below w.heap.size w wc))
 case first =>
  have H := HC0.1
  clear HC0
  by_cases c86 : t20 = true
  ·subst c86
   rw [if_pos rfl] at H
   rcases t22 with _ | q0
   ·obtain rfl := isNone_none hq_t0
    have H1 : (if t21 < 0 then (impl_asked.j0 k t21 true a0_0 a0_1) else (if t21 > 9999999 then (impl_asked.j0 k t21 true a0_0 a0_1) else ((strconv_Itoa.f t21).bind fun t23 => (impl_asked.j0 k t21 (t23.toList != t19.toList) a0_0 a0_1)))) = some r := by rw [if_pos (show (none : Option Int).isNone = true by rfl)] at H; exact H
    clear H
    have H := H1
    clear H1
    try simp only [errP_none, errP_some]
    by_cases c87 : t21 < 0
    ·rw [if_pos c87] at H
     have c38 : decide (t21 < 0) = true := decide_eq_true c87
     clear c87
     (first | rw [c38] | (simp only [i64_w, i32_w]; rw [c38]) | skip)
     have H' := sqa H
     clear H
     go_wp2
     go_meet
     case rel => exact ⟨_, (true), Z1, H', ⟨Z11⟩, ⟨sqK B0⟩, ⟨sqB1 HB E0⟩⟩
    rw [if_neg c87] at H
    have c38 : decide (t21 < 0) = false := decide_eq_false c87
    clear c87
    (first | rw [c38] | (simp only [i64_w, i32_w]; rw [c38]) | skip)
    by_cases c88 : t21 > 9999999
    ·rw [if_pos c88] at H
     have c41 : decide (9999999 < t21) = true := decide_eq_true c88
     clear c88
     have H' := sqa H
     clear H
     go_wp2
     go_meet
     case rel => exact ⟨_, (true), Z1, H', ⟨Z11⟩, ⟨sqK B0⟩, ⟨sqB1 HB E0⟩⟩
    rw [if_neg c88] at H
    have c41 : decide (9999999 < t21) = false := decide_eq_false c88
    clear c88
    obtain ⟨t23, A89, H⟩ := sqD H
    have H' := sqa H
    clear H
    go_wp2_with (first | (go_at_call 144; (with_reducible refine (strconv_Itoa.calls t21 t23 _ ?sideG A89.1).mono ?_); (case sideG => exact Z6 E0); rintro e w90 ⟨rfl, hb⟩; replace B0 := sqT B0 hb; replace HB := sqS (sqB1 HB E0) hb))
    go_meet
    case rel => exact ⟨_, ((t23.toList != t19.toList)), Z1, H', ⟨Z11⟩, ⟨sqK B0⟩, ⟨sqB1 HB E0⟩⟩
   ·obtain ⟨qz_, rfl⟩ := isNone_some hq_t0
    have H1 : (impl_asked.j0 k t21 true a0_0 a0_1) = some r := by rw [if_neg (show ¬ (some q0).isNone = true by simp)] at H; exact H
    clear H
    have H := H1
    clear H1
    try simp only [errP_none, errP_some]
    have H' := sqa H
    clear H
    go_wp2
    go_meet
    case rel => exact ⟨_, (true), Z1, H', ⟨Z11⟩, ⟨sqK B0⟩, ⟨sqB1 HB E0⟩⟩
  obtain rfl := sqb c86
  rw [if_neg sqF] at H
  have H' := sqa H
  clear H
  go_wp2
  go_meet
  case rel => exact ⟨_, (true), Z1, H', ⟨Z11⟩, ⟨sqK B0⟩, ⟨sqB1 HB E0⟩⟩
 case rest =>
  clear HC0
  obtain ⟨kq, x0, rfl, HA, HJ0, B0, HB⟩ := hcut
  cases kq with
  | zero => exact absurd HA.out (by simp [impl_asked.j0])
  | succ kj0 =>
   have H := HA.out
   clear HA
   simp only [impl_asked.j0] at H
   by_cases c91 : x0 = true
   ·subst c91
    rw [if_pos rfl] at H
    obtain rfl := sqo H
    go_wp2
    go_ret
    exact ⟨Z5, sqB1 HB E0⟩
   obtain rfl := sqb c91
   rw [if_neg sqF] at H
   have HC1 := sqa H
   clear H
   go_upto_region 29 with (fail)
   go_cut [106] (fun v3 wc => ∃ (kq : Nat) (x1 : Bool), v3 = .bool x1 ∧ Aside0 (impl_asked.j1 kq t21 x1 a0_0 a0_1 = some r) ∧ Aside0 (kq ≤ kj0) ∧ Aside0 (wc.heap[g0]? = some (.cells #[.int .i64 a0_0, .int .i64 a0_1] 31 (0, 0))) ∧ Aside0 (Below w.heap.size w wc))
   case first =>
    have H := HC1.1
    clear HC1
    by_cases c93 : t21 < 1
    ·rw [if_pos c93] at H
     have c44 : decide (t21 < 1) = true := decide_eq_true c93
     clear c93
     (first | rw [c44] | (simp only [i64_w, i32_w]; rw [c44]) | skip)
     have H' := sqa H
     clear H
     go_wp2
     go_meet
     case rel => exact ⟨_, (true), Z1, H', ⟨by have := HJ0.out; first | omega | exact Nat.le_refl _⟩, ⟨sqK B0⟩, ⟨sqB1 HB E0⟩⟩
    rw [if_neg c93] at H
    have c44 : decide (t21 < 1) = false := decide_eq_false c93
    clear c93
    (first | rw [c44] | (simp only [i64_w, i32_w]; rw [c44]) | skip)
    have H' := sqa H
    clear H
    go_wp2
    go_meet
    case rel => exact ⟨_, (decide (t21 > 12)), Z1, H', ⟨by have := HJ0.out; first | omega | exact Nat.le_refl _⟩, ⟨sqK B0⟩, ⟨sqB1 HB E0⟩⟩
   case rest =>
    clear HC1
    obtain ⟨kq, x1, rfl, HA, HJ1, B0, HB⟩ := hcut
    cases kq with
    | zero => exact absurd HA.out (by simp [impl_asked.j1])
    | succ kj1 =>
     have H := HA.out
     clear HA
     simp only [impl_asked.j1] at H
     by_cases c94 : x1 = true
     ·subst c94
      rw [if_pos rfl] at H
      obtain rfl := sqo H
      go_wp2
      go_ret
      exact ⟨Z5, sqB1 HB E0⟩
     obtain rfl := sqb c94
     rw [if_neg sqF] at H
     obtain ⟨t24, A95, H⟩ := sqD H
     obtain ⟨t25, A96, H⟩ := sqD H
     obtain rfl := sqo H
     obtain ⟨_, _, _, _⟩ := sqY2 B0
     go_wp2_with (first | ((with_reducible refine sqc 152 rfl ?_); refine sqC (some 109) func152 #[.agg #[.int .i64 a0_0, .int .i64 a0_1], .int .i64 t21] ?_; (with_reducible refine (impl_TiedFor.calls kj1 a0_0 a0_1 t21 t24 _ A95.1).mono ?_); refine sqV fun w98 hb => ?_; replace B0 := sqT B0 hb; replace HB := sqS (sqB1 HB E0) hb) | ((with_reducible refine sqc 144 rfl ?_); refine sqC (some 110) func144 #[.int .i64 t24] ?_; (with_reducible refine (strconv_Itoa.calls t24 t25 _ ?sideG A96.1).mono ?_); (case sideG => exact Z6 E0); refine sqV fun w99 hb => ?_; replace B0 := sqT B0 hb; replace HB := sqS (sqB1 HB E0) hb))
     go_ret
     exact ⟨Z5, sqB1 HB E0⟩
/-! ### impl_deskLine: function 87 -/
def impl_deskLine.f (k : Nat) (a0_0 : Int) (a0_1 : Int) (l0_2 : List (S31)) (a1 : ByteArray) : Option (Int × Int × (List (S31)) × ByteArray) := (impl_readDeed.f k a1).bind fun bt0 => (if bt0.2.2 = true then ((impl_deskDo.f k a0_0 a0_1 l0_2 bt0.1 bt0.2.1).bind fun bt1 => (if bt1.2.2.2 = true then (some (bt1.1, bt1.2.1, bt1.2.2.1, (⟨#[111, 107]⟩ : ByteArray))) else (some (bt1.1, bt1.2.1, bt1.2.2.1, (⟨#[110, 111, 116]⟩ : ByteArray))))) else ((impl_copyDesk.f a0_0 a0_1 l0_2).bind fun bt2 => ((impl_asked.f k a0_0 a0_1 a1).bind fun t0 => (some (bt2.1, bt2.2.1, bt2.2.2, t0)))))
theorem impl_deskLine.mono : ∀ a0 a1 a2 a3 k, LeO (impl_deskLine.f k a0 a1 a2 a3) (impl_deskLine.f (k + 1) a0 a1 a2 a3) := by
 intro a0 a1 a2 a3 k
 unfold impl_deskLine.f
 repeat' (with_reducible first | exact impl_asked.mono _ _ _ _ | exact impl_deskDo.mono _ _ _ _ _ _ | exact impl_readDeed.mono _ _ | exact LeO.refl _ | exact LeO.none _ | refine LeO.ite ?_ ?_ | refine LeO.bind ?_ fun _ => ?_)
def impl_deskLine.T7 : Bool × List (List Nat × List Nat) := (true, [([], []), ([0], [0]), ([], []), ([2], [2]), ([], []), ([3, 4, 1], [3, 4]), ([1, 5, 0, 1], [1]), ([5, 6, 0, 1, 2, 3, 4, 5, 6], [5])])
def impl_deskLine.B7 : List Nat := [0, 1, 0, 4, 0, 31, 63, 127]
theorem impl_deskLine.tab7 : rtab .any (opsOf f87 7) = impl_deskLine.T7 := by kernel_rfl
theorem impl_deskLine.bits7 : waitsOk impl_deskLine.T7.2 impl_deskLine.B7 = true := by kernel_rfl
theorem impl_deskLine.calls (k : Nat) (a0_0 : Int) (a0_1 : Int) (A0_2 : Option Addr) (c0_2 : Nat) (l0_2 : List (S31)) (a1 : ByteArray) (r1 : Int) (r2 : Int) (r3 : List (S31)) (r4 : ByteArray) (w : World) (hG : Glob w) (hr0_2 : Kd.C k31 w A0_2 l0_2.length l0_2) (hc0_2 : l0_2.length ≤ c0_2) (H : impl_deskLine.f k a0_0 a0_1 l0_2 a1 = some (r1, r2, r3, r4)) :
  Calls prog 87 #[.agg #[.int .i64 a0_0, .int .i64 a0_1, .slice A0_2 l0_2.length c0_2], .string a1] w fun e w' => ∃ v2_ : Value, e = .returned (.tuple #[.agg #[.int .i64 r1, .int .i64 r2, v2_], .string r4]) ∧ Kd.R k31 31 w' w.heap.size (fun _ => True) v2_ r3 ∧ Below w.heap.size w w' := by
 have hu34 := underlying34
 have hu38 := underlying38
 have hu31 := underlying31
 have HR0_2 := sqa hr0_2
 have HC0_2 := sqa hc0_2
 clear hr0_2 hc0_2
 have HB := sqh w
 unfold impl_deskLine.f at H
 obtain ⟨⟨t352, t0, t1⟩, A3, H⟩ := sqD H
 try dsimp only at H
 go_enter func87, ntmps87
 go_upto_if 15 with (first | ((with_reducible refine sqd 2 rfl ?_); refine sqBx w (sqB HB) (cs := #[.int .i64 a0_0, .int .i64 a0_1, .slice A0_2 l0_2.length c0_2]) (t := 34) ?_; intro g0 hg w7 B0 E0 HB hb; clear hb hg) | ((with_reducible refine sqd 4 rfl ?_); refine sqBx w (sqB1 HB E0) (cs := #[.int .i64 0, .int .i64 0, .slice none 0 0]) (t := 34) ?_; intro g1 hg w8 B2 E1 HB hb; obtain ⟨N0, N1⟩ := sqM hg B0; replace B0 := sqT B0 hb; clear hb hg) | ((with_reducible refine sqc 85 rfl ?_); refine sqC (some 12) func85 #[.string a1] ?_; (with_reducible refine (impl_readDeed.calls k a1 t352 t0 t1 _ ?sideG A3.1).mono ?_); (case sideG => exact Z10 E0 E1); refine sqV fun w9 hb => ?_; replace B0 := sqT B0 hb; replace B2 := sqT B2 hb; replace HB := sqS (sqB2 HB E0 E1) hb) | ((with_reducible refine sqd 6 rfl ?_); refine sqBx w (sqB2 HB E0 E1) (cs := #[.int .i64 0, .string (⟨#[]⟩ : ByteArray)]) (t := 38) ?_; intro g2 hg w0 B8 E2 HB hb; obtain ⟨N2, N3⟩ := sqM hg B0; replace B0 := sqT B0 hb; obtain ⟨N4, N5⟩ := sqM hg B2; replace B2 := sqT B2 hb; clear hb hg; have := N3.1; have := N2.1; have := N5.1; have := N4.1; obtain ⟨_, _, _, _⟩ := sqY2 B8; have := N0.1; have := N1.1; obtain ⟨_, _, _, _, _, _⟩ := sqY3 B0))
 by_cases c4 : t1 = true
 ·subst c4
  rw [if_pos rfl] at H
  obtain ⟨⟨t356, t357, t2, t3⟩, A5, H⟩ := sqD H
  try dsimp only at H
  go_upto_if 23 with (first | ((with_reducible refine sqc 61 rfl ?_); refine sqC (some 19) func61 #[.agg #[.int .i64 a0_0, .int .i64 a0_1, .slice A0_2 l0_2.length c0_2], .agg #[.int .i64 t352, .string t0]] ?_; (with_reducible refine (impl_deskDo.calls k a0_0 a0_1 _ _ l0_2 t352 t0 t356 t357 t2 t3 _ ?sideG ?side1 ?side2 A5.1).mono ?_); (case sideG => exact Glob.below hG (sqB3 HB E0 E1 E2)); (case side1 => exact Kd.C_below HR0_2.1 (sqB3 HB E0 E1 E2)); (case side2 => exact Z35); rintro e w2 ⟨v0, rfl, ho0, hb⟩; refine ⟨_, rfl, ?_⟩; have O0 := sqL ho0 (sqB3 HB E0 E1 E2); replace B0 := sqH N2 B0 hb; replace B2 := sqH N4 B2 hb; replace B8 := sqa (blk_below (g := g2) (o := .cells #[.int .i64 t352, .string t0] 38 (0, 0)) (Z121 B8) hb); replace HB := sqS (sqB3 HB E0 E1 E2) hb; (try clear ho0)) | ((with_reducible refine sqd 8 rfl ?_); refine sqBx w (sqB3 HB E0 E1 E2) (cs := #[.int .i64 0, .int .i64 0, .slice none 0 0]) (t := 34) ?_; intro g3 hg w3 B9 E3 HB hb; replace O0 := sqU O0 hb; obtain ⟨N6, N7⟩ := sqM hg B0; replace B0 := sqT B0 hb; obtain ⟨N8, N9⟩ := sqM hg B2; replace B2 := sqT B2 hb; obtain ⟨N10, N11⟩ := sqM hg B8; replace B8 := sqT B8 hb; clear hb hg; obtain ⟨Ao22, co22, eo0⟩ := Kd.R_slice O0.1; subst eo0; have := N7.1; have := N6.1; have := N9.1; have := N8.1; have := N11.1; have := N10.1; obtain ⟨_, _, _, _, _, _⟩ := sqY3 B9; obtain ⟨_, _, _, _, _, _⟩ := sqY3 B2))
  by_cases c6 : t3 = true
  ·subst c6
   rw [if_pos rfl] at H
   obtain ⟨rfl, rfl, rfl, rfl⟩ := sqO4 H
   go_wp2_with fail
   refine sqE g1 34 #[.int .i64 t356, .int .i64 t357, .slice Ao22 t2.length co22] (Z122 N8 B2) underlying34 ?_
   exact ⟨_, Z5, by (with_reducible repeat (first | apply Kd.R_alloc | apply Kd.R_drewN | apply Kd.R_drew)); exact Kd.R_mono (Kd.R_far (p := ⟨g1, 2, none⟩) (Kd.R_far (p := ⟨g1, 1, none⟩) (Kd.R_far (p := ⟨g1, 0, none⟩) (Kd.R_far (p := ⟨g3, 2, none⟩) (Kd.R_far (p := ⟨g3, 1, none⟩) (Kd.R_far (p := ⟨g3, 0, none⟩) (Kd.R_types (Kd.R_types O0.1 B9.1 (by decide)) B2.1 (by decide)) (fun _ hk => hk.1.2) (.int .i64 t356)) (fun _ hk => hk.1.2) (.int .i64 t357)) (fun _ hk => hk.1.2) (.slice Ao22 t2.length co22)) (fun _ hk => hk.2) (.int .i64 t356)) (fun _ hk => hk.2) (.int .i64 t357)) (fun _ hk => hk.2) (.slice Ao22 t2.length co22)) (fun _ hk => trivial), sqB4 HB E0 E1 E2 E3⟩
  obtain rfl := sqb c6
  rw [if_neg sqF] at H
  obtain ⟨rfl, rfl, rfl, rfl⟩ := sqO4 H
  go_wp2_with fail
  refine sqE g1 34 #[.int .i64 t356, .int .i64 t357, .slice Ao22 t2.length co22] (Z122 N8 B2) underlying34 ?_
  exact ⟨_, Z5, by (with_reducible repeat (first | apply Kd.R_alloc | apply Kd.R_drewN | apply Kd.R_drew)); exact Kd.R_mono (Kd.R_far (p := ⟨g1, 2, none⟩) (Kd.R_far (p := ⟨g1, 1, none⟩) (Kd.R_far (p := ⟨g1, 0, none⟩) (Kd.R_far (p := ⟨g3, 2, none⟩) (Kd.R_far (p := ⟨g3, 1, none⟩) (Kd.R_far (p := ⟨g3, 0, none⟩) (Kd.R_types (Kd.R_types O0.1 B9.1 (by decide)) B2.1 (by decide)) (fun _ hk => hk.1.2) (.int .i64 t356)) (fun _ hk => hk.1.2) (.int .i64 t357)) (fun _ hk => hk.1.2) (.slice Ao22 t2.length co22)) (fun _ hk => hk.2) (.int .i64 t356)) (fun _ hk => hk.2) (.int .i64 t357)) (fun _ hk => hk.2) (.slice Ao22 t2.length co22)) (fun _ hk => trivial), sqB4 HB E0 E1 E2 E3⟩
 obtain rfl := sqb c4
 rw [if_neg sqF] at H
 obtain ⟨⟨t4, t5, t6⟩, A0, H⟩ := sqD H
 try dsimp only at H
 obtain ⟨t7, A1, H⟩ := sqD H
 obtain ⟨rfl, rfl, rfl, rfl⟩ := sqO4 H
 try go_wp2_with fail
 obtain ⟨w4, hw_⟩ : ∃ w_, (w0.setCell ⟨g2, 0, none⟩ (.int .i64 t352)).setCell ⟨g2, 1, none⟩ (.string t0) = w_ := ⟨_, rfl⟩
 replace B0 := sqJ hw_ N2 B0
 replace B2 := sqJ hw_ N4 B2
 replace B8 : Aside0 (w4.heap[g2]? = some (.cells #[.int .i64 t352, .string t0] 38 (0, 0))) := by rw [← hw_]; exact ⟨Z121 B8⟩
 replace HB : Aside0 (Below w.heap.size w w4) := by rw [← hw_]; exact ⟨sqB3 HB E0 E1 E2⟩
 rw [hw_]; clear hw_
 replace B0 := sqa (blk_drew B0.1)
 replace B2 := sqa (blk_drew B2.1)
 replace B8 := sqa (blk_drew B8.1)
 replace HB := sqa (below_drew1 HB.1)
 refine start_ (n := 8) (S := fun w' => w'.cell? ⟨g0, 0, none⟩ = some (.int .i64 a0_0) ∧ w'.cell? ⟨g0, 1, none⟩ = some (.int .i64 a0_1) ∧ w'.cell? ⟨g0, 2, none⟩ = some (.slice A0_2 l0_2.length c0_2)) (ds := []) #[false, false, false, false, false, false, false, false] (by kernel_rfl) rfl rfl (sqk1 B0) (fun hHeld => ?_); refine with_tabW impl_deskLine.tab7 impl_deskLine.bits7 (fun HT_ HW_ => ?_)
 generalize w4.drew = w5 at B0 B2 B8 HB hHeld ⊢
 refine sqP 2 (some 28) (h := ?_)
 refine sqP 4 (some 30) (h := ?_)
 refine sqQ 0 (some 26) hHeld (h := ?_)
 refine sqQ 3 (some 29) hHeld (h := ?_)
 refine sq1 1 (some 27) (h := fun K hK => ?_)
 refine sqg func76 #[.agg #[.int .i64 a0_0, .int .i64 a0_1, .slice A0_2 l0_2.length c0_2]] ?_
 with_reducible refine (impl_copyDesk.calls a0_0 a0_1 _ _ l0_2 t4 t5 t6 _ ?side1 ?side2 A0.1).mono ?_
 (case side1 => exact Z34)
 (case side2 => exact Z35)
 rintro e w6 ⟨v1, rfl, ho0, hb⟩
 refine ⟨_, rfl, ?_⟩
 have O1 := sqL ho0 (sqB3 HB E0 E1 E2)
 replace B0 := sqT B0 hb
 replace B2 := sqT B2 hb
 replace B8 := sqT B8 hb
 replace HB := sqS (sqB3 HB E0 E1 E2) hb
 refine hK.out _ _ (sqk1 B0) (fun hHeld => ?_)
 clear hK K
 refine sqN (some 27) ?_
 refine sq1 5 (some 31) (h := fun K hK => ?_)
 refine sqg func125 #[.agg #[.int .i64 a0_0, .int .i64 a0_1], .string a1] ?_
 with_reducible refine (impl_asked.calls k a0_0 a0_1 a1 t7 _ ?sideG A1.1).mono ?_
 (case sideG => exact Glob.below hG (sqB3 HB E0 E1 E2))
 rintro e w53 ⟨rfl, hb⟩
 refine ⟨_, rfl, ?_⟩
 replace O1 := sqU O1 hb
 replace B0 := sqT B0 hb
 replace B2 := sqT B2 hb
 replace B8 := sqT B8 hb
 replace HB := sqS (sqB3 HB E0 E1 E2) hb
 obtain ⟨Ao0, co0, eo1⟩ := Kd.R_slice O1.1
 (first | subst eo1 | (injection eo1 with f1_ f2_ f3_; have f4_ := f1_.symm; have f5_ := f3_.symm; clear f1_ f2_ f3_; subst f4_; subst f5_))
 refine hK.out _ _ (sqk1 B0) (fun hHeld => ?_)
 clear hK K
 refine sqN (some 31) ?_
 refine sq1 6 none (h := fun K hK => ?_)
 obtain ⟨_, _, _, _, _, _⟩ := sqY3 B2
 have := N0.1
 have := N5.1
 have := N1.1
 have := N4.1
 refine skip_ (w1 := ?_) (by rfl) rfl ?_ ?_
 rotate_left
 ·go_simp
  rfl
 refine hK.out _ _ (sql1 N0 hHeld) (fun hHeld => ?_)
 clear hK K
 refine sqP 7 (some 5) (h := ?_)
 refine done_ (done_of HT_.out (by kernel_rfl)) ?_
 try go_wp2
 refine sqE g1 34 #[.int .i64 t4, .int .i64 t5, .slice Ao0 t6.length co0] (by refine sqPut (cs := #[.int .i64 t4, .int .i64 t5, .slice none 0 0]) ?_ 2; refine sqPut (cs := #[.int .i64 t4, .int .i64 0, .slice none 0 0]) ?_ 1; refine sqPut (cs := #[.int .i64 0, .int .i64 0, .slice none 0 0]) ?_ 0; exact sqK B2) underlying34 ?_
 exact ⟨_, Z5, by (with_reducible repeat (first | apply Kd.R_alloc | apply Kd.R_drewN | apply Kd.R_drew)); exact Kd.R_mono (sqr3 O1.1 B2.1) (fun _ hk => trivial), sqB3 HB E0 E1 E2⟩

/-! ### impl_DeskLine: function 40 -/
def impl_DeskLine.f (k : Nat) (a0_0 : Int) (a0_1 : Int) (l0_2 : List (S31)) (a1 : ByteArray) : Option (Int × Int × (List (S31)) × ByteArray) := (impl_isDesk.f k a0_0 a0_1 l0_2).bind fun t0 => (if t0 = true then ((impl_deskLine.f k a0_0 a0_1 l0_2 a1).bind fun bt0 => (some (bt0.1, bt0.2.1, bt0.2.2.1, bt0.2.2.2))) else (some (0, 0, ([] : List (S31)), (⟨#[]⟩ : ByteArray))))
theorem impl_DeskLine.mono : ∀ a0 a1 a2 a3 k, LeO (impl_DeskLine.f k a0 a1 a2 a3) (impl_DeskLine.f (k + 1) a0 a1 a2 a3) := by
 intro a0 a1 a2 a3 k
 unfold impl_DeskLine.f
 repeat' (with_reducible first | exact impl_deskLine.mono _ _ _ _ _ | exact impl_isDesk.mono _ _ _ _ | exact LeO.refl _ | exact LeO.none _ | refine LeO.ite ?_ ?_ | refine LeO.bind ?_ fun _ => ?_)
theorem impl_DeskLine.calls (k : Nat) (a0_0 : Int) (a0_1 : Int) (A0_2 : Option Addr) (c0_2 : Nat) (l0_2 : List (S31)) (a1 : ByteArray) (r1 : Int) (r2 : Int) (r3 : List (S31)) (r4 : ByteArray) (w : World) (hG : Glob w) (hr0_2 : Kd.C k31 w A0_2 l0_2.length l0_2) (hc0_2 : l0_2.length ≤ c0_2) (H : impl_DeskLine.f k a0_0 a0_1 l0_2 a1 = some (r1, r2, r3, r4)) :
  Calls prog 40 #[.agg #[.int .i64 a0_0, .int .i64 a0_1, .slice A0_2 l0_2.length c0_2], .string a1] w fun e w' => ∃ v2_ : Value, e = .returned (.tuple #[.agg #[.int .i64 r1, .int .i64 r2, v2_], .string r4]) ∧ Kd.R k31 31 w' w.heap.size (fun _ => True) v2_ r3 ∧ Below w.heap.size w w' := by
 have hu34 := underlying34
 have HR0_2 := sqa hr0_2
 have HC0_2 := sqa hc0_2
 clear hr0_2 hc0_2
 have HB := sqh w
 unfold impl_DeskLine.f at H
 obtain ⟨t0, A3, H⟩ := sqD H
 by_cases c4 : t0 = true
 ·subst c4
  rw [if_pos rfl] at H
  obtain ⟨⟨t1, t2, t3, t4⟩, A5, H⟩ := sqD H
  try dsimp only at H
  obtain ⟨rfl, rfl, rfl, rfl⟩ := sqO4 H
  go_enter func40, ntmps40
  go_wp2_with (first | ((with_reducible refine sqd 2 rfl ?_); refine sqBx w (sqB HB) (cs := #[.int .i64 a0_0, .int .i64 a0_1, .slice A0_2 l0_2.length c0_2]) (t := 34) ?_; intro g0 hg w6 B0 E0 HB hb; clear hb hg) | ((with_reducible refine sqd 4 rfl ?_); refine sqBx w (sqB1 HB E0) (cs := #[.int .i64 0, .int .i64 0, .slice none 0 0]) (t := 34) ?_; intro g1 hg w7 B2 E1 HB hb; obtain ⟨N0, N1⟩ := sqM hg B0; replace B0 := sqT B0 hb; clear hb hg; have := N0.1; have := N1.1; obtain ⟨_, _, _, _, _, _⟩ := sqY3 B0) | ((with_reducible refine sqc 60 rfl ?_); refine sqC (some 7) func60 #[.agg #[.int .i64 a0_0, .int .i64 a0_1, .slice A0_2 l0_2.length c0_2]] ?_; (with_reducible refine (impl_isDesk.calls k a0_0 a0_1 _ _ l0_2 true _ ?side1 ?side2 A3.1).mono ?_); (case side1 => exact Z34); (case side2 => exact Z35); refine sqV fun w0 hb => ?_; replace B0 := sqT B0 hb; replace B2 := sqT B2 hb; replace HB := sqS (sqB2 HB E0 E1) hb; obtain ⟨_, _, _, _, _, _⟩ := sqY3 B0) | ((with_reducible refine sqc 87 rfl ?_); refine sqC (some 12) func87 #[.agg #[.int .i64 a0_0, .int .i64 a0_1, .slice A0_2 l0_2.length c0_2], .string a1] ?_; (with_reducible refine (impl_deskLine.calls k a0_0 a0_1 _ _ l0_2 a1 t1 t2 t3 t4 _ ?sideG ?side1 ?side2 A5.1).mono ?_); (case sideG => exact Z10 E0 E1); (case side1 => exact Z34); (case side2 => exact Z35); rintro e w1 ⟨v0, rfl, ho0, hb⟩; refine ⟨_, rfl, ?_⟩; have O0 := sqL ho0 (sqB2 HB E0 E1); replace B0 := sqT B0 hb; replace B2 := sqT B2 hb; replace HB := sqS (sqB2 HB E0 E1) hb; (try clear ho0); obtain ⟨_, _, _, _, _, _⟩ := sqY3 B2; obtain ⟨Ao0, co0, eo0⟩ := Kd.R_slice O0.1; subst eo0))
  refine sqE g1 34 #[.int .i64 t1, .int .i64 t2, .slice Ao0 t3.length co0] (by refine sqPut (cs := #[.int .i64 t1, .int .i64 t2, .slice none 0 0]) ?_ 2; refine sqPut (cs := #[.int .i64 t1, .int .i64 0, .slice none 0 0]) ?_ 1; refine sqPut (cs := #[.int .i64 0, .int .i64 0, .slice none 0 0]) ?_ 0; exact sqK B2) underlying34 ?_
  exact ⟨_, Z5, by (with_reducible repeat (first | apply Kd.R_alloc | apply Kd.R_drewN | apply Kd.R_drew)); exact Kd.R_mono (sqr3 O0.1 B2.1) (fun _ hk => trivial), sqB2 HB E0 E1⟩
 obtain rfl := sqb c4
 rw [if_neg sqF] at H
 obtain ⟨rfl, rfl, rfl, rfl⟩ := sqO4 H
 go_enter func40, ntmps40
 go_wp2_with (first | ((with_reducible refine sqd 2 rfl ?_); refine sqBx w (sqB HB) (cs := #[.int .i64 a0_0, .int .i64 a0_1, .slice A0_2 l0_2.length c0_2]) (t := 34) ?_; intro g0 hg w2 B0 E0 HB hb; clear hb hg) | ((with_reducible refine sqd 4 rfl ?_); refine sqBx w (sqB1 HB E0) (cs := #[.int .i64 0, .int .i64 0, .slice none 0 0]) (t := 34) ?_; intro g1 hg w3 B2 E1 HB hb; obtain ⟨N0, N1⟩ := sqM hg B0; replace B0 := sqT B0 hb; clear hb hg; have := N0.1; have := N1.1; obtain ⟨_, _, _, _, _, _⟩ := sqY3 B0) | ((with_reducible refine sqc 60 rfl ?_); refine sqC (some 7) func60 #[.agg #[.int .i64 a0_0, .int .i64 a0_1, .slice A0_2 l0_2.length c0_2]] ?_; (with_reducible refine (impl_isDesk.calls k a0_0 a0_1 _ _ l0_2 false _ ?side1 ?side2 A3.1).mono ?_); (case side1 => exact Z34); (case side2 => exact Z35); refine sqV fun w4 hb => ?_; replace B0 := sqT B0 hb; replace B2 := sqT B2 hb; replace HB := sqS (sqB2 HB E0 E1) hb; obtain ⟨_, _, _, _, _, _⟩ := sqY3 B2))
 refine sqE g1 34 #[.int .i64 0, .int .i64 0, .slice none 0 0] (Z44 B2) underlying34 ?_
 exact ⟨_, Z5, Z45, sqB2 HB E0 E1⟩

/-! ### spec_l11Copy: function 56 -/
def spec_l11Copy.f (a0_0 : Int) (a0_1 : Int) (l0_2 : List (S31)) : Option (Int × Int × (List (S31))) := (some (([] : List (S31)) : List (S31))).bind fun y0 => (if y0.length + l0_2.length < 8796093022208 then (some (a0_0, a0_1, (y0 ++ l0_2))) else (none))
def spec_l11Copy.T1 : Bool × List (List Nat × List Nat) := (true, [([], []), ([0], [0]), ([], []), ([], []), ([3], [3]), ([2, 4], [2, 4]), ([1, 5], [1, 5]), ([6, 5, 0, 1, 2, 3, 4, 5, 6], [6])])
def spec_l11Copy.B1 : List Nat := [0, 1, 0, 0, 8, 28, 63, 127]
theorem spec_l11Copy.tab1 : rtab .any (opsOf f56 1) = spec_l11Copy.T1 := by kernel_rfl
theorem spec_l11Copy.bits1 : waitsOk spec_l11Copy.T1.2 spec_l11Copy.B1 = true := by kernel_rfl
theorem spec_l11Copy.calls (a0_0 : Int) (a0_1 : Int) (A0_2 : Option Addr) (c0_2 : Nat) (l0_2 : List (S31)) (r1 : Int) (r2 : Int) (r3 : List (S31)) (w : World) (hr0_2 : Kd.C k31 w A0_2 l0_2.length l0_2) (hc0_2 : l0_2.length ≤ c0_2) (H : spec_l11Copy.f a0_0 a0_1 l0_2 = some (r1, r2, r3)) :
  Calls prog 56 #[.agg #[.int .i64 a0_0, .int .i64 a0_1, .slice A0_2 l0_2.length c0_2]] w fun e w' => ∃ v2_ : Value, e = .returned (.agg #[.int .i64 r1, .int .i64 r2, v2_]) ∧ Kd.R k31 31 w' w.heap.size (fun _ => True) v2_ r3 ∧ Below w.heap.size w w' := by
 have hu34 := underlying34
 have hu31 := underlying31
 have HR0_2 := sqa hr0_2
 have HC0_2 := sqa hc0_2
 clear hr0_2 hc0_2
 have HB := sqh w
 unfold spec_l11Copy.f at H
 obtain ⟨y0, hy0⟩ : ∃ y_ : List (S31), y_ = (([] : List (S31))) := ⟨_, rfl⟩
 replace H : (if y0.length + l0_2.length < 8796093022208 then (some (a0_0, a0_1, (y0 ++ l0_2))) else (none)) = some (r1, r2, r3) := sqW hy0 H
 have Ny0 := sqa hy0
 clear hy0
 obtain ⟨c2, H⟩ := sqI H
 have LMc2 := sqa c2
 clear c2
 obtain ⟨y1, hy1⟩ : ∃ y_ : List (S31), y_ = (y0 ++ l0_2) := ⟨_, rfl⟩
 replace H : (some (a0_0, a0_1, y1)) = some (r1, r2, r3) := sqW hy1 H
 have Ny1 := sqa hy1
 clear hy1
 obtain ⟨rfl, rfl, rfl⟩ := sqO3 H
 go_enter func56, ntmps56
 try go_wp2_with (first | ((with_reducible refine sqd 1 rfl ?_); refine sqBx w (sqB HB) (cs := #[.int .i64 a0_0, .int .i64 a0_1, .slice A0_2 l0_2.length c0_2]) (t := 34) ?_; intro g0 hg w3 B0 E0 HB hb; clear hb hg) | ((with_reducible refine sqd 2 rfl ?_); refine sqBx w (sqB1 HB E0) (cs := #[.int .i64 0, .int .i64 0, .slice none 0 0]) (t := 34) ?_; intro g1 hg w4 B2 E1 HB hb; obtain ⟨N0, N1⟩ := sqM hg B0; replace B0 := sqT B0 hb; clear hb hg))
 replace B0 := sqa (blk_drew B0.1)
 replace B2 := sqa (blk_drew B2.1)
 replace HB := sqa (below_drew1 HB.1)
 refine start_ (n := 8) (S := fun w' => w'.cell? ⟨g0, 0, none⟩ = some (.int .i64 a0_0) ∧ w'.cell? ⟨g0, 1, none⟩ = some (.int .i64 a0_1) ∧ w'.cell? ⟨g0, 2, none⟩ = some (.slice A0_2 l0_2.length c0_2)) (ds := []) #[false, false, false, false, false, false, false, false] (by kernel_rfl) rfl rfl (sqk1 B0) (fun hHeld => ?_); refine with_tabW spec_l11Copy.tab1 spec_l11Copy.bits1 (fun HT_ HW_ => ?_)
 generalize w4.drew = w5 at B0 B2 HB hHeld ⊢
 refine sqP 0 (some 3) (h := ?_)
 refine sqP 3 (some 6) (h := ?_)
 refine sqQ 1 (some 4) hHeld (h := ?_)
 refine sqQ 4 (some 7) hHeld (h := ?_)
 refine sq1 2 (some 5) (h := fun K hK => ?_)
 refine Kd.R_lit_step k31 _ 31 ?hg (N := 5) ?hd (xs := ([] : List (S31))) (inner := []) (ok := fun _ => True) (okp := fun _ => True) ?hr ?hp (fun _ hk => hk) trivial (Below.refl _ _) (Nat.le_refl _) (by simp) ?_; (case hd => rfl); (case hg => rfl); (case hr => exact Z17); (case hp => exact Z23)
 intro v0 w6 ho7 hb hg_ hnew_
 clear hg_ hnew_
 (first | rw [← Ny0.out] at ho7 | (simp only [Int.reduceToNat] at ho7; rw [← Ny0.out] at ho7))
 have O0 := sqL ho7 (sqB2 HB E0 E1)
 replace B0 := sqT B0 hb
 replace B2 := sqT B2 hb
 replace HB := sqS (sqB2 HB E0 E1) hb
 clear hb ho7
 refine hK.out _ _ (sqk1 B0) (fun hHeld => ?_)
 clear hK K
 refine sqN (some 5) ?_
 refine sq1 5 (some 8) (h := fun K hK => ?_)
 refine Kd.R_append_rows_step k31 (w0 := w) w.heap.size (by rfl) (.tmp 5) (.tmp 7) 32 31 (.agg #[(.int .i64 0), (.int .i64 0)]) 16 rfl underlying32 info31 rfl (by decide) (by omega) v0 y0 l0_2 _ _ _ (fun _ => True) (fun _ => False) rfl rfl ?aO ?aR (fun _ _ h => h) (fun _ h => h.elim) ?aF ?aB ?aS ?aL ?_
 (case aR => exact Z34)
 (case aB => exact (sqB2 HB E0 E1))
 (case aF => exact Z24)
 (case aO => exact (sqR O0))
 (case aS => exact (below_size (sqB2 HB E0 E1)))
 (case aL => exact Z2 LMc2)
 intro v1 w8 ho hb hg hat
 rw [← Ny1.out] at ho
 replace B0 := sqa (blk_grown (sqK B0) hg (Kd.R_ne O0.1 B0.1 (by decide)))
 replace B2 := sqa (blk_grown (sqK B2) hg (Kd.R_ne O0.1 B2.1 (by decide)))
 replace HB := sqa (hb)
 have O1 := sqa (ho)
 clear O0
 clear ho hb hg hat
 obtain ⟨Ao9, co9, eo9⟩ := Kd.R_slice O1.1
 (first | subst eo9 | (injection eo9 with f1_ f2_ f3_; have f4_ := f1_.symm; have f5_ := f3_.symm; clear f1_ f2_ f3_; subst f4_; subst f5_))
 refine hK.out _ _ (sqk1 B0) (fun hHeld => ?_)
 clear hK K
 refine sqN (some 8) ?_
 refine sqP 6 (some 9) (h := ?_)
 refine sq1 7 none (h := fun K hK => ?_)
 obtain ⟨_, _, _, _, _, _⟩ := sqY3 B2
 have := N0.1
 have := N1.1
 refine skip_ (w1 := ?_) (by rfl) rfl ?_ ?_
 rotate_left
 ·go_simp
  rfl
 refine hK.out _ _ (sql1 N0 hHeld) (fun hHeld => ?_)
 clear hK K
 refine done_ (done_of HT_.out (by kernel_rfl)) ?_
 try go_wp2
 refine sqEr g1 34 #[.int .i64 a0_0, .int .i64 a0_1, .slice Ao9 y1.length co9] (Z89 B2) underlying34 ?_
 exact ⟨_, Z5, by (with_reducible repeat (first | apply Kd.R_alloc | apply Kd.R_drewN | apply Kd.R_drew)); exact Kd.R_mono (sqr3 O1.1 B2.1) (fun _ hk => trivial), sqB2 HB E0 E1⟩

/-! ### spec_PlusOf: function 127 -/
def spec_PlusOf.f (k : Nat) (a0_0 : Int) (a0_1 : Int) (a1 : Int) : Option (Int × Int × Bool) := (spec_FractionOk.f k a0_0 a0_1).bind fun t0 => (if t0 = true then ((spec_l1In.f a1 (-1000000) 1000000).bind fun t1 => (if t1 = true then ((spec_FractionOk.f k (wrap64 (a0_0 + (wrap64 (a1 * a0_1)))) a0_1).bind fun t2 => (if t2 = true then (some (wrap64 (a0_0 + (wrap64 (a1 * a0_1))), a0_1, true)) else (some (0, 0, false)))) else (some (0, 0, false)))) else (some (0, 0, false)))
theorem spec_PlusOf.mono : ∀ a0 a1 a2 k, LeO (spec_PlusOf.f k a0 a1 a2) (spec_PlusOf.f (k + 1) a0 a1 a2) := by
 intro a0 a1 a2 k
 unfold spec_PlusOf.f
 repeat' (with_reducible first | exact spec_FractionOk.mono _ _ _ | exact LeO.refl _ | exact LeO.none _ | refine LeO.ite ?_ ?_ | refine LeO.bind ?_ fun _ => ?_)
theorem spec_PlusOf.calls (k : Nat) (a0_0 : Int) (a0_1 : Int) (a1 : Int) (r1 : Int) (r2 : Int) (r3 : Bool) (w : World) (H : spec_PlusOf.f k a0_0 a0_1 a1 = some (r1, r2, r3)) :
  Calls prog 127 #[.agg #[.int .i64 a0_0, .int .i64 a0_1], .int .i64 a1] w fun e w' => e = .returned (.tuple #[.agg #[.int .i64 r1, .int .i64 r2], .bool r3]) ∧ Below w.heap.size w w' := by
 have hu31 := underlying31
 have HB := sqh w
 unfold spec_PlusOf.f at H
 obtain ⟨t0, A3, H⟩ := sqD H
 go_enter func127, ntmps127
 go_upto_region 2 with (first | ((with_reducible refine sqd 2 rfl ?_); refine sqBx w (sqB HB) (cs := #[.int .i64 a0_0, .int .i64 a0_1]) (t := 31) ?_; intro g0 hg w9 B0 E0 HB hb; clear hb hg) | ((with_reducible refine sqd 4 rfl ?_); refine sqBx w (sqB1 HB E0) (cs := #[.int .i64 0, .int .i64 0]) (t := 31) ?_; intro g1 hg w0 B2 E1 HB hb; obtain ⟨N0, N1⟩ := sqM hg B0; replace B0 := sqT B0 hb; clear hb hg; have := N0.1; have := N1.1; obtain ⟨_, _, _, _⟩ := sqY2 B0) | ((with_reducible refine sqd 6 rfl ?_); refine sqBx w (sqB2 HB E0 E1) (cs := #[.int .i64 0, .int .i64 0]) (t := 31) ?_; intro g2 hg w1 B8 E2 HB hb; obtain ⟨N2, N3⟩ := sqM hg B0; replace B0 := sqT B0 hb; obtain ⟨N4, N5⟩ := sqM hg B2; replace B2 := sqT B2 hb; clear hb hg; have := N3.1; have := N2.1; have := N5.1; have := N4.1; obtain ⟨_, _, _, _⟩ := sqY2 B8; obtain ⟨_, _, _, _⟩ := sqY2 B0))
 by_cases c4 : t0 = true
 ·subst c4
  rw [if_pos rfl] at H
  obtain ⟨t1, A5, H⟩ := sqD H
  by_cases c6 : t1 = true
  ·subst c6
   rw [if_pos rfl] at H
   obtain ⟨t2, A7, H⟩ := sqD H
   by_cases c8 : t2 = true
   ·subst c8
    rw [if_pos rfl] at H
    obtain ⟨rfl, rfl, rfl⟩ := sqO3 H
    go_wp2_with (first | ((with_reducible refine sqc 77 rfl ?_); refine sqC (some 18) func77 #[.agg #[.int .i64 a0_0, .int .i64 a0_1]] ?_; (with_reducible refine (spec_FractionOk.calls k a0_0 a0_1 true _ A3.1).mono ?_); refine sqV fun w2 hb => ?_; replace B0 := sqH N2 B0 hb; replace B2 := sqH N4 B2 hb; replace B8 := sqa (blk_below (g := g2) (o := .cells #[.int .i64 (wrap64 (a0_0 + (wrap64 (a1 * a0_1)))), .int .i64 a0_1] 31 (0, 0)) (Z90 B8) hb); replace HB := sqS (sqB3 HB E0 E1 E2) hb) | (go_at_call 101; (with_reducible refine (spec_l1In.calls a1 (-1000000) 1000000 true _ A5.1).mono ?_); rintro e w' ⟨rfl, ⟨nd, rfl⟩⟩; (try (rw [drewN_self w2]; generalize hq_ : World.drewN w2 _ = w2; have n0_ : Aside0 (w2.heap[g0]? = some (.cells #[.int .i64 a0_0, .int .i64 a0_1] 31 (0, 0))) := ⟨Z28 B0⟩; have n1_ : Aside0 (w2.heap[g1]? = some (.cells #[.int .i64 0, .int .i64 0] 31 (0, 0))) := ⟨Z28 B2⟩; have n2_ : Aside0 (w2.heap[g2]? = some (.cells #[.int .i64 (wrap64 (a0_0 + (wrap64 (a1 * a0_1)))), .int .i64 a0_1] 31 (0, 0))) := ⟨Z28 B8⟩; have n3_ : Aside0 (Below w.heap.size w w2) := ⟨by rw [← hq_]; exact (sqB3 HB E0 E1 E2)⟩; clear B0 B2 B8 HB hq_; have B0 := n0_; have B2 := n1_; have B8 := n2_; have HB := n3_; clear n0_ n1_ n2_ n3_)); have hcz0 : w2.cell? ⟨g2, 0, none⟩ = some (.int .i64 (wrap64 (a0_0 + (wrap64 (a1 * a0_1))))) := (blk_cell B8.1 0).trans rfl; have hcz1 := sqZ B8 1 (.int .i64 a0_1); have hfz0 := blk_frozen B8.1 0; have hfz1 := blk_frozen B8.1 1) | (go_at_call 77; (with_reducible refine (spec_FractionOk.calls k (wrap64 (a0_0 + (wrap64 (a1 * a0_1)))) a0_1 true _ A7.1).mono ?_); rintro e w3 ⟨rfl, hb⟩; replace B0 := sqT B0 hb; replace B2 := sqT B2 hb; replace B8 := sqT B8 hb; replace HB := sqS (sqB3 HB E0 E1 E2) hb; have hcz2 : w3.cell? ⟨g2, 0, none⟩ = some (.int .i64 (wrap64 (a0_0 + (wrap64 (a1 * a0_1))))) := (blk_cell B8.1 0).trans rfl; have hcz3 := sqZ B8 1 (.int .i64 a0_1); have hfz2 := blk_frozen B8.1 0; have hfz3 := blk_frozen B8.1 1; obtain ⟨_, _, _, _⟩ := sqY2 B2))
    refine sqE g1 31 #[.int .i64 (wrap64 (a0_0 + (wrap64 (a1 * a0_1)))), .int .i64 a0_1] (Z90 B2) underlying31 ?_
    exact ⟨Z5, sqB3 HB E0 E1 E2⟩
   obtain rfl := sqb c8
   rw [if_neg sqF] at H
   obtain ⟨rfl, rfl, rfl⟩ := sqO3 H
   go_wp2_with (first | ((with_reducible refine sqc 77 rfl ?_); refine sqC (some 18) func77 #[.agg #[.int .i64 a0_0, .int .i64 a0_1]] ?_; (with_reducible refine (spec_FractionOk.calls k a0_0 a0_1 true _ A3.1).mono ?_); refine sqV fun w4 hb => ?_; replace B0 := sqH N2 B0 hb; replace B2 := sqH N4 B2 hb; replace B8 := sqa (blk_below (g := g2) (o := .cells #[.int .i64 (wrap64 (a0_0 + (wrap64 (a1 * a0_1)))), .int .i64 a0_1] 31 (0, 0)) (Z90 B8) hb); replace HB := sqS (sqB3 HB E0 E1 E2) hb) | (go_at_call 101; (with_reducible refine (spec_l1In.calls a1 (-1000000) 1000000 true _ A5.1).mono ?_); rintro e w' ⟨rfl, ⟨nd, rfl⟩⟩; (try (rw [drewN_self w4]; generalize hq_ : World.drewN w4 _ = w4; have n0_ : Aside0 (w4.heap[g0]? = some (.cells #[.int .i64 a0_0, .int .i64 a0_1] 31 (0, 0))) := ⟨Z28 B0⟩; have n1_ : Aside0 (w4.heap[g1]? = some (.cells #[.int .i64 0, .int .i64 0] 31 (0, 0))) := ⟨Z28 B2⟩; have n2_ : Aside0 (w4.heap[g2]? = some (.cells #[.int .i64 (wrap64 (a0_0 + (wrap64 (a1 * a0_1)))), .int .i64 a0_1] 31 (0, 0))) := ⟨Z28 B8⟩; have n3_ : Aside0 (Below w.heap.size w w4) := ⟨by rw [← hq_]; exact (sqB3 HB E0 E1 E2)⟩; clear B0 B2 B8 HB hq_; have B0 := n0_; have B2 := n1_; have B8 := n2_; have HB := n3_; clear n0_ n1_ n2_ n3_)); have hcz4 : w4.cell? ⟨g2, 0, none⟩ = some (.int .i64 (wrap64 (a0_0 + (wrap64 (a1 * a0_1))))) := (blk_cell B8.1 0).trans rfl; have hcz5 := sqZ B8 1 (.int .i64 a0_1); have hfz4 := blk_frozen B8.1 0; have hfz5 := blk_frozen B8.1 1) | (go_at_call 77; (with_reducible refine (spec_FractionOk.calls k (wrap64 (a0_0 + (wrap64 (a1 * a0_1)))) a0_1 false _ A7.1).mono ?_); rintro e w5 ⟨rfl, hb⟩; replace B0 := sqT B0 hb; replace B2 := sqT B2 hb; replace B8 := sqT B8 hb; replace HB := sqS (sqB3 HB E0 E1 E2) hb; obtain ⟨_, _, _, _⟩ := sqY2 B2))
   refine sqE g1 31 #[.int .i64 0, .int .i64 0] (Z12 B2) underlying31 ?_
   exact ⟨Z5, sqB3 HB E0 E1 E2⟩
  obtain rfl := sqb c6
  rw [if_neg sqF] at H
  obtain ⟨rfl, rfl, rfl⟩ := sqO3 H
  go_wp2_with (first | ((with_reducible refine sqc 77 rfl ?_); refine sqC (some 18) func77 #[.agg #[.int .i64 a0_0, .int .i64 a0_1]] ?_; (with_reducible refine (spec_FractionOk.calls k a0_0 a0_1 true _ A3.1).mono ?_); refine sqV fun w6 hb => ?_; replace B0 := sqH N2 B0 hb; replace B2 := sqH N4 B2 hb; replace B8 := sqa (blk_below (g := g2) (o := .cells #[.int .i64 (wrap64 (a0_0 + (wrap64 (a1 * a0_1)))), .int .i64 a0_1] 31 (0, 0)) (Z90 B8) hb); replace HB := sqS (sqB3 HB E0 E1 E2) hb) | (go_at_call 101; (with_reducible refine (spec_l1In.calls a1 (-1000000) 1000000 false _ A5.1).mono ?_); rintro e w' ⟨rfl, ⟨nd, rfl⟩⟩; (try (rw [drewN_self w6]; generalize hq_ : World.drewN w6 _ = w6; have n0_ : Aside0 (w6.heap[g0]? = some (.cells #[.int .i64 a0_0, .int .i64 a0_1] 31 (0, 0))) := ⟨Z28 B0⟩; have n1_ : Aside0 (w6.heap[g1]? = some (.cells #[.int .i64 0, .int .i64 0] 31 (0, 0))) := ⟨Z28 B2⟩; have n2_ : Aside0 (w6.heap[g2]? = some (.cells #[.int .i64 (wrap64 (a0_0 + (wrap64 (a1 * a0_1)))), .int .i64 a0_1] 31 (0, 0))) := ⟨Z28 B8⟩; have n3_ : Aside0 (Below w.heap.size w w6) := ⟨by rw [← hq_]; exact (sqB3 HB E0 E1 E2)⟩; clear B0 B2 B8 HB hq_; have B0 := n0_; have B2 := n1_; have B8 := n2_; have HB := n3_; clear n0_ n1_ n2_ n3_)); obtain ⟨_, _, _, _⟩ := sqY2 B2))
  refine sqE g1 31 #[.int .i64 0, .int .i64 0] (Z12 B2) underlying31 ?_
  exact ⟨Z5, sqB3 HB E0 E1 E2⟩
 obtain rfl := sqb c4
 rw [if_neg sqF] at H
 obtain ⟨rfl, rfl, rfl⟩ := sqO3 H
 go_wp2_with (first | ((with_reducible refine sqc 77 rfl ?_); refine sqC (some 18) func77 #[.agg #[.int .i64 a0_0, .int .i64 a0_1]] ?_; (with_reducible refine (spec_FractionOk.calls k a0_0 a0_1 false _ A3.1).mono ?_); refine sqV fun w7 hb => ?_; replace B0 := sqH N2 B0 hb; replace B2 := sqH N4 B2 hb; replace B8 := sqa (blk_below (g := g2) (o := .cells #[.int .i64 (wrap64 (a0_0 + (wrap64 (a1 * a0_1)))), .int .i64 a0_1] 31 (0, 0)) (Z90 B8) hb); replace HB := sqS (sqB3 HB E0 E1 E2) hb; obtain ⟨_, _, _, _⟩ := sqY2 B2))
 refine sqE g1 31 #[.int .i64 0, .int .i64 0] (Z12 B2) underlying31 ?_
 exact ⟨Z5, sqB3 HB E0 E1 E2⟩
end Go.Proofs.YtofmlbgfcohhoaaGreatDoor.PFnDeskLine
