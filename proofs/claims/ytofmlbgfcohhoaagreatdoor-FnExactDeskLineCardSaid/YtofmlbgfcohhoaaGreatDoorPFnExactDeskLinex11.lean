/- Lean functions of the Go functions that the law FnExactDeskLine reaches, each with its contract: made by a program of this session. -/
import Derived.Test.YtofmlbgfcohhoaaGreatDoorPFnExactDeskLinex9
import Derived.Test.YtofmlbgfcohhoaaGreatDoorPFnExactDeskLinex10
namespace Go.Proofs.YtofmlbgfcohhoaaGreatDoor.PFnExactDeskLine
open Go.RowKit Go.Proofs.YtofmlbgfcohhoaaGreatDoorW.PrintWords Go.Proofs.YtofmlbgfcohhoaaGreatDoorW.PrintLast Go.Proofs.YtofmlbgfcohhoaaGreatDoorW.PrintMore Go.Proofs.YtofmlbgfcohhoaaGreatDoor.Lib
attribute [local go_sem] max2_int min2_int max_two min_two max_three min_three max_four min_four   -- for this text's walks alone
set_option linter.unusedVariables false
set_option linter.unusedSimpArgs false

/-! ### impl_asked: function 125 -/
mutual
def impl_asked.j0 : Nat → Int → Bool → Int → Int → Option (ByteArray)
 | 0, _, _, _, _ => none
 | k + 1, x11, x100, x336000, x336001 => if x100 = true then (some (⟨#[119, 104, 97, 116]⟩ : ByteArray)) else (if x11 < 1 then (impl_asked.j1 k x11 true x336000 x336001) else (impl_asked.j1 k x11 (decide (x11 > 12)) x336000 x336001))
def impl_asked.j1 : Nat → Int → Bool → Int → Int → Option (ByteArray)
 | 0, _, _, _, _ => none
 | k + 1, x11, x106, x336000, x336001 => if x106 = true then (some (⟨#[110, 111, 110, 101]⟩ : ByteArray)) else ((impl_TiedFor.f k x336000 x336001 x11).bind fun t366 => ((strconv_Itoa.f t366).bind fun t367 => (some t367)))
end
def impl_asked.f (k : Nat) (a0_0 : Int) (a0_1 : Int) (a1 : ByteArray) : Option (ByteArray) := if a1.toList = ([116, 101, 120, 116] : List UInt8) then ((impl_fractionText.f a0_0 a0_1).bind fun t336 => (some t336)) else (if a1.toList = ([109, 111, 118, 101, 115] : List UInt8) then ((impl_isSmall.f k a0_0 a0_1 12).bind fun t337 => (if t337 = true then ((impl_untied.f k a0_0 a0_1).bind fun t338 => (if 1 + t338.size ≤ 9223372036854775807 then (some ((⟨#[58]⟩ : ByteArray) ++ t338)) else (none))) else (some (⟨#[110, 111, 110, 101]⟩ : ByteArray)))) else (if a1.toList = ([116, 101, 114, 109, 115] : List UInt8) then ((impl_TermsOf.f k a0_0 a0_1).bind fun bt339 => (if bt339.2 = true then ((impl_listText.f k bt339.1).bind fun t343 => (some t343)) else (some (⟨#[110, 111, 110, 101]⟩ : ByteArray)))) else (if a1.toList = ([99, 114, 111, 115, 115, 105, 110, 103, 115] : List UInt8) then ((impl_CrossingsOf.f k a0_0 a0_1).bind fun t344 => ((strconv_Itoa.f t344).bind fun t345 => (some t345))) else (if a1.toList = ([101, 110, 100, 115] : List UInt8) then ((impl_EndsFor.f k a0_0 a0_1).bind fun t346 => ((impl_listText.f k t346).bind fun t349 => (some t349))) else (if a1.toList = ([114, 105, 110, 103, 115] : List UInt8) then ((impl_RingsOf.f k a0_0 a0_1).bind fun t350 => ((strconv_Itoa.f t350).bind fun t351 => (some t351))) else (if a1.toList = ([108, 105, 110, 107] : List UInt8) then ((impl_linkOf.f k a0_0 a0_1).bind fun bt352 => (if bt352.2.2 = true then ((impl_least.f k bt352.1 bt352.2.1).bind fun bt356 => ((strconv_Itoa.f bt356.1).bind fun t358 => (if t358.size + 1 ≤ 9223372036854775807 then ((strconv_Itoa.f bt356.2).bind fun t359 => (if (t358 ++ (⟨#[58]⟩ : ByteArray)).size + t359.size ≤ 9223372036854775807 then (some ((t358 ++ (⟨#[58]⟩ : ByteArray)) ++ t359)) else (none))) else (none)))) else (some (⟨#[110, 111, 110, 101]⟩ : ByteArray)))) else ((strings_CutPrefix.f a1 (⟨#[99, 111, 108, 111, 117, 114, 115, 32]⟩ : ByteArray)).bind fun bt360 => ((strconv_Atoi.f bt360.1).bind fun bt362 => (if bt360.2 = true then (if bt362.2.isNone = true then (if bt362.1 < 0 then (impl_asked.j0 k bt362.1 true a0_0 a0_1) else (if bt362.1 > 9999999 then (impl_asked.j0 k bt362.1 true a0_0 a0_1) else ((strconv_Itoa.f bt362.1).bind fun t365 => (impl_asked.j0 k bt362.1 (t365.toList != bt360.1.toList) a0_0 a0_1)))) else (impl_asked.j0 k bt362.1 true a0_0 a0_1)) else (impl_asked.j0 k bt362.1 true a0_0 a0_1))))))))))
abbrev impl_asked.M (k : Nat) : Prop := (∀ y0 y1 y2 y3, LeO (impl_asked.j0 k y0 y1 y2 y3) (impl_asked.j0 (k + 1) y0 y1 y2 y3)) ∧ (∀ y0 y1 y2 y3, LeO (impl_asked.j1 k y0 y1 y2 y3) (impl_asked.j1 (k + 1) y0 y1 y2 y3))
theorem impl_asked.mono_t : ∀ k, impl_asked.M k → impl_asked.M (k + 1) ∧ ∀ a0 a1 a2, LeO (impl_asked.f k a0 a1 a2) (impl_asked.f (k + 1) a0 a1 a2) := by
  rintro k ⟨ih0, ih1⟩
  refine ⟨⟨?_, ?_⟩, ?_⟩ <;> intros <;> (first | unfold impl_asked.j0 | unfold impl_asked.j1 | unfold impl_asked.f) <;> repeat' (with_reducible first | exact ih0 _ _ _ _ | exact ih1 _ _ _ _ | exact impl_CrossingsOf.mono _ _ _ | exact impl_EndsFor.mono _ _ _ | exact impl_RingsOf.mono _ _ _ | exact impl_TermsOf.mono _ _ _ | exact impl_TiedFor.mono _ _ _ _ | exact impl_isSmall.mono _ _ _ _ | exact impl_least.mono _ _ _ | exact impl_linkOf.mono _ _ _ | exact impl_listText.mono _ _ | exact impl_untied.mono _ _ _ | exact LeO.refl _ | exact LeO.none _ | refine LeO.ite ?_ ?_ | refine LeO.bind ?_ fun _ => ?_)
theorem impl_asked.mono_l : ∀ k, impl_asked.M k
 | 0 => ⟨fun _ _ _ _ r h => by simp [impl_asked.j0] at h, fun _ _ _ _ r h => by simp [impl_asked.j1] at h⟩
 | k + 1 => (impl_asked.mono_t k (impl_asked.mono_l k)).1
theorem impl_asked.mono a0 a1 a2 k : LeO (impl_asked.f k a0 a1 a2) (impl_asked.f (k + 1) a0 a1 a2) := (impl_asked.mono_t k (impl_asked.mono_l k)).2 a0 a1 a2
def impl_asked.T24 : Bool × List (List Nat × List Nat) := (true, [([], []), ([0], [0]), ([1], [1]), ([2], [2]), ([], []), ([4], [4]), ([5, 2], [5]), ([3, 6], [3, 6]), ([7, 6, 0, 1, 2, 3, 4, 5, 6, 7], [7])])
def impl_asked.B24 : List Nat := [0, 1, 3, 7, 0, 16, 55, 127, 255]
theorem impl_asked.tab24 : rtab .any (opsOf Tryz.f125 24) = impl_asked.T24 := by kernel_rfl
theorem impl_asked.bits24 : waitsOk impl_asked.T24.2 impl_asked.B24 = true := by kernel_rfl
set_option maxHeartbeats 8000000 in
set_option maxRecDepth 100000 in
theorem impl_asked.calls (k : Nat) (a0_0 : Int) (a0_1 : Int) (a1 : ByteArray) (r : ByteArray) (w : World) (hG : Glob w) (h : impl_asked.f k a0_0 a0_1 a1 = some r) :
  Calls Tryz.prog 125 #[.agg #[.int .i64 a0_0, .int .i64 a0_1], .string a1] w fun e w' => e = .returned (.string r) ∧ Below w.heap.size w w' := by
 have hu31 := Tryz.underlying31
 have hu116 := Tryz.underlying116
 have hu150 := Tryz.underlying150
 have HB := Aside0.mk (Below.refl w.heap.size w)
 unfold impl_asked.f at h
 have H := h
 clear h
 by_cases c3 : a1.toList = ([116, 101, 120, 116] : List UInt8)
 ·rw [if_pos c3] at H
  have c3b0 : (a1.toList == ([116, 101, 120, 116] : List UInt8)) = true := beq_iff_eq.mpr c3
  have c3b1 : (a1.toList != ([116, 101, 120, 116] : List UInt8)) = false := bne_eq_false_iff_eq.mpr c3
  clear c3
  obtain ⟨t336, A4, H⟩ := sqD H
  obtain rfl := Option.some.inj H
  go_enter Tryz.func125, Tryz.ntmps125
  go_wp2_with (first | ((with_reducible refine gate_dst (N := 2) rfl ?_); refine sqBx w (sqB HB) (N := 2) (cs := #[.int .i64 a0_0, .int .i64 a0_1]) (t := 31) ?_; intro gb335 hg w5 BK335 GE335 HB hb; clear hb hg; obtain ⟨hcz6_0, hcz6_1, hfz6_0, hfz6_1⟩ := sqY2 BK335) | ((with_reducible refine gate_callee (f := 141) rfl ?_); refine sqC (some 17) Tryz.func141 #[.agg #[.int .i64 a0_0, .int .i64 a0_1]] ?_; (with_reducible refine (impl_fractionText.calls a0_0 a0_1 t336 _ ?sideG A4.out).mono ?_); (case sideG => exact Z7 GE335); rintro e w7 ⟨rfl, hb⟩; refine ⟨_, rfl, ?_⟩; replace BK335 := sqT BK335 hb; replace HB := sqS (sqB1 HB GE335) hb; (try clear hb)))
  go_ret
  exact ⟨Z6, sqB1 HB GE335⟩
 rw [if_neg c3] at H
 have c3b0 : (a1.toList == ([116, 101, 120, 116] : List UInt8)) = false := beq_eq_false_iff_ne.mpr c3
 have c3b1 : (a1.toList != ([116, 101, 120, 116] : List UInt8)) = true := bne_iff_ne.mpr c3
 by_cases c8 : a1.toList = ([109, 111, 118, 101, 115] : List UInt8)
 ·rw [if_pos c8] at H
  have c8b0 : (a1.toList == ([109, 111, 118, 101, 115] : List UInt8)) = true := beq_iff_eq.mpr c8
  have c8b1 : (a1.toList != ([109, 111, 118, 101, 115] : List UInt8)) = false := bne_eq_false_iff_eq.mpr c8
  clear c8
  obtain ⟨t337, A9, H⟩ := sqD H
  by_cases c10 : t337 = true
  ·subst c10
   rw [if_pos rfl] at H
   obtain ⟨t338, A11, H⟩ := sqD H
   obtain ⟨c12, H⟩ := sqI H
   have c12b0 := eq_true c12
   have c12b1 : decide (1 + t338.size ≤ 9223372036854775807) = true := decide_eq_true c12
   try have c12b2 : (9223372036854775807 < 1 + t338.size) = False := eq_false (Nat.not_lt.2 c12)
   obtain rfl := Option.some.inj H
   go_enter Tryz.func125, Tryz.ntmps125
   go_wp2_with (first | ((with_reducible refine gate_dst (N := 2) rfl ?_); refine sqBx w (sqB HB) (N := 2) (cs := #[.int .i64 a0_0, .int .i64 a0_1]) (t := 31) ?_; intro gb335 hg w13 BK335 GE335 HB hb; clear hb hg; obtain ⟨hcz14_0, hcz14_1, hfz14_0, hfz14_1⟩ := sqY2 BK335) | ((with_reducible refine gate_callee (f := 104) rfl ?_); refine sqC (some 21) Tryz.func104 #[.agg #[.int .i64 a0_0, .int .i64 a0_1], .int .i64 12] ?_; (with_reducible refine (impl_isSmall.calls k a0_0 a0_1 12 true _ A9.out).mono ?_); rintro e w15 ⟨rfl, hb⟩; refine ⟨_, rfl, ?_⟩; replace BK335 := sqT BK335 hb; replace HB := sqS (sqB1 HB GE335) hb; (try clear hb); obtain ⟨hcz16_0, hcz16_1, hfz16_0, hfz16_1⟩ := sqY2 BK335) | ((with_reducible refine gate_callee (f := 105) rfl ?_); refine sqC (some 24) Tryz.func105 #[.agg #[.int .i64 a0_0, .int .i64 a0_1]] ?_; (with_reducible refine (impl_untied.calls k a0_0 a0_1 t338 _ A11.out).mono ?_); rintro e w17 ⟨rfl, hb⟩; refine ⟨_, rfl, ?_⟩; replace BK335 := sqT BK335 hb; replace HB := sqS (sqB1 HB GE335) hb; (try clear hb)))
   go_ret
   exact ⟨Z6, sqB1 HB GE335⟩
  replace c10 := Bool.eq_false_iff.mpr c10
  subst c10
  rw [if_neg sqF] at H
  obtain rfl := Option.some.inj H
  go_enter Tryz.func125, Tryz.ntmps125
  go_wp2_with (first | ((with_reducible refine gate_dst (N := 2) rfl ?_); refine sqBx w (sqB HB) (N := 2) (cs := #[.int .i64 a0_0, .int .i64 a0_1]) (t := 31) ?_; intro gb335 hg w18 BK335 GE335 HB hb; clear hb hg; obtain ⟨hcz19_0, hcz19_1, hfz19_0, hfz19_1⟩ := sqY2 BK335) | ((with_reducible refine gate_callee (f := 104) rfl ?_); refine sqC (some 21) Tryz.func104 #[.agg #[.int .i64 a0_0, .int .i64 a0_1], .int .i64 12] ?_; (with_reducible refine (impl_isSmall.calls k a0_0 a0_1 12 false _ A9.out).mono ?_); rintro e w20 ⟨rfl, hb⟩; refine ⟨_, rfl, ?_⟩; replace BK335 := sqT BK335 hb; replace HB := sqS (sqB1 HB GE335) hb; (try clear hb)))
  go_ret
  exact ⟨Z6, sqB1 HB GE335⟩
 rw [if_neg c8] at H
 have c8b0 : (a1.toList == ([109, 111, 118, 101, 115] : List UInt8)) = false := beq_eq_false_iff_ne.mpr c8
 have c8b1 : (a1.toList != ([109, 111, 118, 101, 115] : List UInt8)) = true := bne_iff_ne.mpr c8
 by_cases c21 : a1.toList = ([116, 101, 114, 109, 115] : List UInt8)
 ·rw [if_pos c21] at H
  have c21b0 : (a1.toList == ([116, 101, 114, 109, 115] : List UInt8)) = true := beq_iff_eq.mpr c21
  have c21b1 : (a1.toList != ([116, 101, 114, 109, 115] : List UInt8)) = false := bne_eq_false_iff_eq.mpr c21
  clear c21
  obtain ⟨⟨t339, t342⟩, A22, H⟩ := sqD H
  try dsimp only at H
  by_cases c23 : t342 = true
  ·subst c23
   rw [if_pos rfl] at H
   obtain ⟨t343, A24, H⟩ := sqD H
   obtain rfl := Option.some.inj H
   go_enter Tryz.func125, Tryz.ntmps125
   go_wp2_with (first | ((with_reducible refine gate_dst (N := 2) rfl ?_); refine sqBx w (sqB HB) (N := 2) (cs := #[.int .i64 a0_0, .int .i64 a0_1]) (t := 31) ?_; intro gb335 hg w25 BK335 GE335 HB hb; clear hb hg; obtain ⟨hcz26_0, hcz26_1, hfz26_0, hfz26_1⟩ := sqY2 BK335) | ((with_reducible refine gate_callee (f := 142) rfl ?_); refine sqC (some 30) Tryz.func142 #[.agg #[.int .i64 a0_0, .int .i64 a0_1]] ?_; (with_reducible refine (impl_TermsOf.calls k a0_0 a0_1 t339 true _ A22.out).mono ?_); rintro e w27 ⟨v340, rfl, ho0, hb⟩; refine ⟨_, rfl, ?_⟩; have HO341 := sqL ho0 (sqB1 HB GE335); replace BK335 := sqT BK335 hb; replace HB := sqS (sqB1 HB GE335) hb; (try clear hb); (try clear ho0); obtain ⟨Ao28, co28, eo28⟩ := Kd.R_slice HO341.out; subst eo28) | ((with_reducible refine gate_callee (f := 143) rfl ?_); refine sqC (some 36) Tryz.func143 #[.slice Ao28 t339.length co28] ?_; (with_reducible refine (impl_listText.calls k _ _ t339 t343 _ ?sideG ?side1 ?side2 A24.out).mono ?_); (case sideG => exact Z7 GE335); (case side1 => exact Z8 HO341); (case side2 => exact Z9 HO341); rintro e w29 ⟨rfl, hb⟩; refine ⟨_, rfl, ?_⟩; replace HO341 := sqU HO341 hb; replace BK335 := sqT BK335 hb; replace HB := sqS (sqB1 HB GE335) hb; (try clear hb)))
   go_ret
   exact ⟨Z6, sqB1 HB GE335⟩
  replace c23 := Bool.eq_false_iff.mpr c23
  subst c23
  rw [if_neg sqF] at H
  obtain rfl := Option.some.inj H
  go_enter Tryz.func125, Tryz.ntmps125
  go_wp2_with (first | ((with_reducible refine gate_dst (N := 2) rfl ?_); refine sqBx w (sqB HB) (N := 2) (cs := #[.int .i64 a0_0, .int .i64 a0_1]) (t := 31) ?_; intro gb335 hg w30 BK335 GE335 HB hb; clear hb hg; obtain ⟨hcz31_0, hcz31_1, hfz31_0, hfz31_1⟩ := sqY2 BK335) | ((with_reducible refine gate_callee (f := 142) rfl ?_); refine sqC (some 30) Tryz.func142 #[.agg #[.int .i64 a0_0, .int .i64 a0_1]] ?_; (with_reducible refine (impl_TermsOf.calls k a0_0 a0_1 t339 false _ A22.out).mono ?_); rintro e w32 ⟨v340, rfl, ho0, hb⟩; refine ⟨_, rfl, ?_⟩; have HO341 := sqL ho0 (sqB1 HB GE335); replace BK335 := sqT BK335 hb; replace HB := sqS (sqB1 HB GE335) hb; (try clear hb); (try clear ho0)))
  go_ret
  exact ⟨Z6, sqB1 HB GE335⟩
 rw [if_neg c21] at H
 have c21b0 : (a1.toList == ([116, 101, 114, 109, 115] : List UInt8)) = false := beq_eq_false_iff_ne.mpr c21
 have c21b1 : (a1.toList != ([116, 101, 114, 109, 115] : List UInt8)) = true := bne_iff_ne.mpr c21
 by_cases c33 : a1.toList = ([99, 114, 111, 115, 115, 105, 110, 103, 115] : List UInt8)
 ·rw [if_pos c33] at H
  have c33b0 : (a1.toList == ([99, 114, 111, 115, 115, 105, 110, 103, 115] : List UInt8)) = true := beq_iff_eq.mpr c33
  have c33b1 : (a1.toList != ([99, 114, 111, 115, 115, 105, 110, 103, 115] : List UInt8)) = false := bne_eq_false_iff_eq.mpr c33
  clear c33
  obtain ⟨t344, A34, H⟩ := sqD H
  obtain ⟨t345, A35, H⟩ := sqD H
  obtain rfl := Option.some.inj H
  go_enter Tryz.func125, Tryz.ntmps125
  go_wp2_with (first | ((with_reducible refine gate_dst (N := 2) rfl ?_); refine sqBx w (sqB HB) (N := 2) (cs := #[.int .i64 a0_0, .int .i64 a0_1]) (t := 31) ?_; intro gb335 hg w36 BK335 GE335 HB hb; clear hb hg; obtain ⟨hcz37_0, hcz37_1, hfz37_0, hfz37_1⟩ := sqY2 BK335) | ((with_reducible refine gate_callee (f := 145) rfl ?_); refine sqC (some 40) Tryz.func145 #[.agg #[.int .i64 a0_0, .int .i64 a0_1]] ?_; (with_reducible refine (impl_CrossingsOf.calls k a0_0 a0_1 t344 _ A34.out).mono ?_); rintro e w38 ⟨rfl, hb⟩; refine ⟨_, rfl, ?_⟩; replace BK335 := sqT BK335 hb; replace HB := sqS (sqB1 HB GE335) hb; (try clear hb)) | ((with_reducible refine gate_callee (f := 144) rfl ?_); refine sqC (some 41) Tryz.func144 #[.int .i64 t344] ?_; (with_reducible refine (strconv_Itoa.calls t344 t345 _ ?sideG A35.out).mono ?_); (case sideG => exact Z7 GE335); rintro e w39 ⟨rfl, hb⟩; refine ⟨_, rfl, ?_⟩; replace BK335 := sqT BK335 hb; replace HB := sqS (sqB1 HB GE335) hb; (try clear hb)))
  go_ret
  exact ⟨Z6, sqB1 HB GE335⟩
 rw [if_neg c33] at H
 have c33b0 : (a1.toList == ([99, 114, 111, 115, 115, 105, 110, 103, 115] : List UInt8)) = false := beq_eq_false_iff_ne.mpr c33
 have c33b1 : (a1.toList != ([99, 114, 111, 115, 115, 105, 110, 103, 115] : List UInt8)) = true := bne_iff_ne.mpr c33
 by_cases c40 : a1.toList = ([101, 110, 100, 115] : List UInt8)
 ·rw [if_pos c40] at H
  have c40b0 : (a1.toList == ([101, 110, 100, 115] : List UInt8)) = true := beq_iff_eq.mpr c40
  have c40b1 : (a1.toList != ([101, 110, 100, 115] : List UInt8)) = false := bne_eq_false_iff_eq.mpr c40
  clear c40
  obtain ⟨t346, A41, H⟩ := sqD H
  obtain ⟨t349, A42, H⟩ := sqD H
  obtain rfl := Option.some.inj H
  go_enter Tryz.func125, Tryz.ntmps125
  go_wp2_with (first | ((with_reducible refine gate_dst (N := 2) rfl ?_); refine sqBx w (sqB HB) (N := 2) (cs := #[.int .i64 a0_0, .int .i64 a0_1]) (t := 31) ?_; intro gb335 hg w43 BK335 GE335 HB hb; clear hb hg; obtain ⟨hcz44_0, hcz44_1, hfz44_0, hfz44_1⟩ := sqY2 BK335) | ((with_reducible refine gate_callee (f := 146) rfl ?_); refine sqC (some 45) Tryz.func146 #[.agg #[.int .i64 a0_0, .int .i64 a0_1]] ?_; (with_reducible refine (impl_EndsFor.calls k a0_0 a0_1 t346 _ A41.out).mono ?_); rintro e w45 ⟨v347, rfl, ho0, hb⟩; refine ⟨_, rfl, ?_⟩; have HO348 := sqL ho0 (sqB1 HB GE335); replace BK335 := sqT BK335 hb; replace HB := sqS (sqB1 HB GE335) hb; (try clear hb); (try clear ho0); obtain ⟨Ao46, co46, eo46⟩ := Kd.R_slice HO348.out; subst eo46) | ((with_reducible refine gate_callee (f := 143) rfl ?_); refine sqC (some 46) Tryz.func143 #[.slice Ao46 t346.length co46] ?_; (with_reducible refine (impl_listText.calls k _ _ t346 t349 _ ?sideG ?side1 ?side2 A42.out).mono ?_); (case sideG => exact Z7 GE335); (case side1 => exact Z8 HO348); (case side2 => exact Z9 HO348); rintro e w47 ⟨rfl, hb⟩; refine ⟨_, rfl, ?_⟩; replace HO348 := sqU HO348 hb; replace BK335 := sqT BK335 hb; replace HB := sqS (sqB1 HB GE335) hb; (try clear hb)))
  go_ret
  exact ⟨Z6, sqB1 HB GE335⟩
 rw [if_neg c40] at H
 have c40b0 : (a1.toList == ([101, 110, 100, 115] : List UInt8)) = false := beq_eq_false_iff_ne.mpr c40
 have c40b1 : (a1.toList != ([101, 110, 100, 115] : List UInt8)) = true := bne_iff_ne.mpr c40
 by_cases c48 : a1.toList = ([114, 105, 110, 103, 115] : List UInt8)
 ·rw [if_pos c48] at H
  have c48b0 : (a1.toList == ([114, 105, 110, 103, 115] : List UInt8)) = true := beq_iff_eq.mpr c48
  have c48b1 : (a1.toList != ([114, 105, 110, 103, 115] : List UInt8)) = false := bne_eq_false_iff_eq.mpr c48
  clear c48
  obtain ⟨t350, A49, H⟩ := sqD H
  obtain ⟨t351, A50, H⟩ := sqD H
  obtain rfl := Option.some.inj H
  go_enter Tryz.func125, Tryz.ntmps125
  go_wp2_with (first | ((with_reducible refine gate_dst (N := 2) rfl ?_); refine sqBx w (sqB HB) (N := 2) (cs := #[.int .i64 a0_0, .int .i64 a0_1]) (t := 31) ?_; intro gb335 hg w51 BK335 GE335 HB hb; clear hb hg; obtain ⟨hcz52_0, hcz52_1, hfz52_0, hfz52_1⟩ := sqY2 BK335) | ((with_reducible refine gate_callee (f := 147) rfl ?_); refine sqC (some 50) Tryz.func147 #[.agg #[.int .i64 a0_0, .int .i64 a0_1]] ?_; (with_reducible refine (impl_RingsOf.calls k a0_0 a0_1 t350 _ A49.out).mono ?_); rintro e w53 ⟨rfl, hb⟩; refine ⟨_, rfl, ?_⟩; replace BK335 := sqT BK335 hb; replace HB := sqS (sqB1 HB GE335) hb; (try clear hb)) | ((with_reducible refine gate_callee (f := 144) rfl ?_); refine sqC (some 51) Tryz.func144 #[.int .i64 t350] ?_; (with_reducible refine (strconv_Itoa.calls t350 t351 _ ?sideG A50.out).mono ?_); (case sideG => exact Z7 GE335); rintro e w54 ⟨rfl, hb⟩; refine ⟨_, rfl, ?_⟩; replace BK335 := sqT BK335 hb; replace HB := sqS (sqB1 HB GE335) hb; (try clear hb)))
  go_ret
  exact ⟨Z6, sqB1 HB GE335⟩
 rw [if_neg c48] at H
 have c48b0 : (a1.toList == ([114, 105, 110, 103, 115] : List UInt8)) = false := beq_eq_false_iff_ne.mpr c48
 have c48b1 : (a1.toList != ([114, 105, 110, 103, 115] : List UInt8)) = true := bne_iff_ne.mpr c48
 by_cases c55 : a1.toList = ([108, 105, 110, 107] : List UInt8)
 ·rw [if_pos c55] at H
  have c55b0 : (a1.toList == ([108, 105, 110, 107] : List UInt8)) = true := beq_iff_eq.mpr c55
  have c55b1 : (a1.toList != ([108, 105, 110, 107] : List UInt8)) = false := bne_eq_false_iff_eq.mpr c55
  clear c55
  obtain ⟨⟨t352, t353, t354⟩, A56, H⟩ := sqD H
  try dsimp only at H
  by_cases c57 : t354 = true
  ·subst c57
   rw [if_pos rfl] at H
   obtain ⟨⟨t356, t357⟩, A58, H⟩ := sqD H
   try dsimp only at H
   obtain ⟨t358, A59, H⟩ := sqD H
   obtain ⟨c60, H⟩ := sqI H
   have c60b0 := eq_true c60
   have c60b1 : decide (t358.size + 1 ≤ 9223372036854775807) = true := decide_eq_true c60
   try have c60b2 : (9223372036854775807 < t358.size + 1) = False := eq_false (Nat.not_lt.2 c60)
   obtain ⟨t359, A61, H⟩ := sqD H
   obtain ⟨c62, H⟩ := sqI H
   have c62b0 := eq_true c62
   have c62b1 : decide ((t358 ++ (⟨#[58]⟩ : ByteArray)).size + t359.size ≤ 9223372036854775807) = true := decide_eq_true c62
   try have c62b2 : (9223372036854775807 < (t358 ++ (⟨#[58]⟩ : ByteArray)).size + t359.size) = False := eq_false (Nat.not_lt.2 c62)
   try have c62b7 : (9223372036854775807 < t358.size + 1 + t359.size) = False := by (have h_ := c62b2; (repeat rw [ByteArray.size_append] at h_); exact h_)
   obtain rfl := Option.some.inj H
   go_enter Tryz.func125, Tryz.ntmps125
   try go_wp2_with (first | ((with_reducible refine gate_dst (N := 2) rfl ?_); refine sqBx w (sqB HB) (N := 2) (cs := #[.int .i64 a0_0, .int .i64 a0_1]) (t := 31) ?_; intro gb335 hg w63 BK335 GE335 HB hb; clear hb hg; obtain ⟨hcz64_0, hcz64_1, hfz64_0, hfz64_1⟩ := sqY2 BK335) | ((with_reducible refine gate_callee (f := 148) rfl ?_); refine sqC (some 56) Tryz.func148 #[.agg #[.int .i64 a0_0, .int .i64 a0_1]] ?_; (with_reducible refine (impl_linkOf.calls k a0_0 a0_1 t352 t353 true _ A56.out).mono ?_); rintro e w65 ⟨rfl, hb⟩; refine ⟨_, rfl, ?_⟩; replace BK335 := sqT BK335 hb; replace HB := sqS (sqB1 HB GE335) hb; (try clear hb)) | ((with_reducible refine gate_dst (N := 7) rfl ?_); refine sqBx w (sqB1 HB GE335) (N := 7) (cs := #[.int .i64 0, .int .i64 0]) (t := 116) ?_; intro gb355 hg w66 BK355 GE355 HB hb; obtain ⟨NB335_355, NB355_335⟩ := sqM hg BK335; replace BK335 := sqT BK335 hb; clear hb hg; have hnb67 := NB355_335.out; have hnc67 := NB335_355.out; obtain ⟨hcz68_0, hcz68_1, hfz68_0, hfz68_1⟩ := sqY2 BK355) | ((with_reducible refine gate_callee (f := 149) rfl ?_); refine sqC (some 62) Tryz.func149 #[.agg #[.int .i64 t352, .int .i64 t353]] ?_; (with_reducible refine (impl_least.calls k t352 t353 t356 t357 _ A58.out).mono ?_); rintro e w69 ⟨rfl, hb⟩; refine ⟨_, rfl, ?_⟩; replace BK335 := sqH NB335_355 BK335 hb; replace BK355 := Aside0.mk (blk_below (g := gb355) (o := .cells #[.int .i64 t352, .int .i64 t353] 116 (0, 0)) (by refine sqPut (cs := #[.int .i64 t352, .int .i64 0]) ?_ 1; refine sqPut (cs := #[.int .i64 0, .int .i64 0]) ?_ 0; exact sqK BK355) hb); replace HB := sqS (sqB2 HB GE335 GE355) hb; (try clear hb); obtain ⟨hcz70_0, hcz70_1, hfz70_0, hfz70_1⟩ := sqY2 BK355))
   obtain ⟨w71, hw_⟩ : ∃ w_, (w69.setCell ⟨gb355, 0, none⟩ (.int .i64 t356)).setCell ⟨gb355, 1, none⟩ (.int .i64 t357) = w_ := ⟨_, rfl⟩
   replace BK335 := sqJ hw_ NB335_355 BK335
   replace BK355 : Aside0 (w71.heap[gb355]? = some (.cells #[.int .i64 t356, .int .i64 t357] 116 (0, 0))) := by rw [← hw_]; exact ⟨by refine sqPut (cs := #[.int .i64 t356, .int .i64 t353]) ?_ 1; refine sqPut (cs := #[.int .i64 t352, .int .i64 t353]) ?_ 0; exact sqK BK355⟩
   replace HB : Aside0 (Below w.heap.size w w71) := by rw [← hw_]; exact ⟨sqB2 HB GE335 GE355⟩
   rw [hw_]; clear hw_
   replace BK335 := Aside0.mk (blk_drew BK335.out)
   replace BK355 := Aside0.mk (blk_drew BK355.out)
   replace HB := Aside0.mk (below_drew1 HB.out)
   refine start_ (n := 9) (S := fun w' => w'.cell? ⟨gb355, 0, none⟩ = some (.int .i64 t356) ∧ w'.cell? ⟨gb355, 1, none⟩ = some (.int .i64 t357)) (ds := []) #[false, false, false, false, false, false, false, false, false] (by kernel_rfl) rfl rfl ⟨(blk_cell BK355.out 0).trans rfl, (blk_cell BK355.out 1).trans rfl⟩ (fun hHeld => ?_); refine with_tabW impl_asked.tab24 impl_asked.bits24 (fun HT_ HW_ => ?_)
   generalize w71.drew = w72 at BK335 BK355 HB hHeld ⊢
   refine sqP (i := 0) (N := some 63) (h := ?_)
   refine sqP (i := 4) (N := some 67) (h := ?_)
   refine sqQ (i := 1) (N := some 64) hHeld (h := ?_)
   refine sqQ (i := 5) (N := some 68) hHeld (h := ?_)
   refine one_ (i := 2) (N := some 65) #[true, true, true, false, true, true, false, false, false] rfl rfl (one_of HT_.out (by kernel_rfl)) (by decide) (fun K hK => ?_)
   refine goes_ Tryz.func144 (by kernel_rfl) rfl #[.int .i64 t356] (by rfl) rfl rfl sqA ?_
   with_reducible refine (strconv_Itoa.calls t356 t358 _ ?sideG A59.out).mono ?_
   (case sideG => exact Z11 GE335 GE355)
   rintro e w73 ⟨rfl, hb⟩
   refine ⟨_, rfl, ?_⟩
   replace BK335 := sqT BK335 hb
   replace BK355 := sqT BK355 hb
   replace HB := sqS (sqB2 HB GE335 GE355) hb
   (try clear hb)
   (try clear hb2)
   (try clear hk)
   (try clear hi)
   refine hK.out _ _ ⟨(blk_cell BK355.out 0).trans rfl, (blk_cell BK355.out 1).trans rfl⟩ (fun hHeld => ?_)
   clear hK K
   refine sqN (some 65) ?_
   refine sqP (i := 3) (N := some 66) (h := ?_)
   refine one_ (i := 6) (N := some 69) #[true, true, true, true, true, true, true, false, false] rfl rfl (one_of HT_.out (by kernel_rfl)) (by decide) (fun K hK => ?_)
   refine goes_ Tryz.func144 (by kernel_rfl) rfl #[.int .i64 t357] (by rfl) rfl rfl sqA ?_
   with_reducible refine (strconv_Itoa.calls t357 t359 _ ?sideG A61.out).mono ?_
   (case sideG => exact Z11 GE335 GE355)
   rintro e w74 ⟨rfl, hb⟩
   refine ⟨_, rfl, ?_⟩
   replace BK335 := sqT BK335 hb
   replace BK355 := sqT BK355 hb
   replace HB := sqS (sqB2 HB GE335 GE355) hb
   (try clear hb)
   (try clear hb2)
   (try clear hk)
   (try clear hi)
   refine hK.out _ _ ⟨(blk_cell BK355.out 0).trans rfl, (blk_cell BK355.out 1).trans rfl⟩ (fun hHeld => ?_)
   clear hK K
   refine sqN (some 69) ?_
   refine sqP (i := 7) (N := some 70) (h := ?_)
   refine sqP (i := 8) (N := some 4) (h := ?_)
   refine done_ (done_of HT_.out (by kernel_rfl)) ?_
   try go_wp2
   go_ret
   exact ⟨Z6, sqB2 HB GE335 GE355⟩
  replace c57 := Bool.eq_false_iff.mpr c57
  subst c57
  rw [if_neg sqF] at H
  obtain rfl := Option.some.inj H
  go_enter Tryz.func125, Tryz.ntmps125
  go_wp2_with (first | ((with_reducible refine gate_dst (N := 2) rfl ?_); refine sqBx w (sqB HB) (N := 2) (cs := #[.int .i64 a0_0, .int .i64 a0_1]) (t := 31) ?_; intro gb335 hg w75 BK335 GE335 HB hb; clear hb hg; obtain ⟨hcz76_0, hcz76_1, hfz76_0, hfz76_1⟩ := sqY2 BK335) | ((with_reducible refine gate_callee (f := 148) rfl ?_); refine sqC (some 56) Tryz.func148 #[.agg #[.int .i64 a0_0, .int .i64 a0_1]] ?_; (with_reducible refine (impl_linkOf.calls k a0_0 a0_1 t352 t353 false _ A56.out).mono ?_); rintro e w77 ⟨rfl, hb⟩; refine ⟨_, rfl, ?_⟩; replace BK335 := sqT BK335 hb; replace HB := sqS (sqB1 HB GE335) hb; (try clear hb)) | ((with_reducible refine gate_dst (N := 7) rfl ?_); refine sqBx w (sqB1 HB GE335) (N := 7) (cs := #[.int .i64 0, .int .i64 0]) (t := 116) ?_; intro gb355 hg w78 BK355 GE355 HB hb; obtain ⟨NB335_355, NB355_335⟩ := sqM hg BK335; replace BK335 := sqT BK335 hb; clear hb hg; have hnb79 := NB355_335.out; have hnc79 := NB335_355.out; obtain ⟨hcz80_0, hcz80_1, hfz80_0, hfz80_1⟩ := sqY2 BK355))
  go_ret
  exact ⟨Z6, sqB2 HB GE335 GE355⟩
 rw [if_neg c55] at H
 have c55b0 : (a1.toList == ([108, 105, 110, 107] : List UInt8)) = false := beq_eq_false_iff_ne.mpr c55
 have c55b1 : (a1.toList != ([108, 105, 110, 107] : List UInt8)) = true := bne_iff_ne.mpr c55
 obtain ⟨⟨t360, t361⟩, A81, H⟩ := sqD H
 try dsimp only at H
 obtain ⟨⟨t362, t363⟩, A82, H⟩ := sqD H
 try dsimp only at H
 have HC83 := Aside0.mk H
 clear H
 go_enter Tryz.func125, Tryz.ntmps125
 go_upto_region 27 with (first | ((with_reducible refine gate_dst (N := 2) rfl ?_); refine sqBx w (sqB HB) (N := 2) (cs := #[.int .i64 a0_0, .int .i64 a0_1]) (t := 31) ?_; intro gb335 hg w84 BK335 GE335 HB hb; clear hb hg) | ((with_reducible refine gate_callee (f := 150) rfl ?_); refine sqC (some 73) Tryz.func150 #[.string a1, .string (⟨#[99, 111, 108, 111, 117, 114, 115, 32]⟩ : ByteArray)] ?_; (with_reducible refine (strings_CutPrefix.calls a1 (⟨#[99, 111, 108, 111, 117, 114, 115, 32]⟩ : ByteArray) t360 t361 _ A81.out).mono ?_); rintro e w' ⟨rfl, ⟨nd, rfl⟩⟩; refine ⟨_, rfl, ?_⟩) | ((with_reducible refine gate_callee (f := 151) rfl ?_); refine sqC (some 78) Tryz.func151 #[.string t360] ?_; (with_reducible refine (strconv_Atoi.calls t360 t362 t363 _ ?sideG A82.out).mono ?_); (case sideG => exact Z7 GE335); rintro e w85 ⟨q_t363, hq_t363, rfl, hb⟩; refine ⟨_, rfl, ?_⟩; replace BK335 := sqT BK335 hb; replace HB := sqS (sqB1 HB GE335) hb; (try clear hb); (try simp only [errP_none, errP_some])))
 (try simp only [Act.put, List.setIfInBounds_toArray, List.set_cons_zero, List.set_cons_succ])
 go_cut [100] (fun v100 wc => ∃ (kq : Nat) (x100_82 : Bool), v100 = .bool x100_82 ∧ Aside0 (impl_asked.j0 kq t362 x100_82 a0_0 a0_1 = some r) ∧ Aside0 (kq ≤ k) ∧ Aside0 (wc.heap[gb335]? = some (.cells #[.int .i64 a0_0, .int .i64 a0_1] 31 (0, 0))) ∧ Aside0 (Below w.heap.size w wc))
 case first =>
  have H := HC83.out
  clear HC83
  by_cases c86 : t361 = true
  ·subst c86
   rw [if_pos rfl] at H
   rcases t363 with _ | q364
   ·obtain rfl := isNone_none hq_t363
    have H1 : (if t362 < 0 then (impl_asked.j0 k t362 true a0_0 a0_1) else (if t362 > 9999999 then (impl_asked.j0 k t362 true a0_0 a0_1) else ((strconv_Itoa.f t362).bind fun t365 => (impl_asked.j0 k t362 (t365.toList != t360.toList) a0_0 a0_1)))) = some r := by rw [if_pos (show (none : Option Int).isNone = true by rfl)] at H; exact H
    clear H
    have H := H1
    clear H1
    try simp only [errP_none, errP_some]
    by_cases c87 : t362 < 0
    ·rw [if_pos c87] at H
     have c87b0 : decide (t362 < 0) = true := decide_eq_true c87
     clear c87
     (first | rw [c87b0] | (simp only [i64_w, i32_w]; rw [c87b0]) | skip)
     have H' := Aside0.mk H
     clear H
     go_wp2
     go_meet
     case rel => exact ⟨_, (true), Z2, H', ⟨Z12⟩, ⟨sqK BK335⟩, ⟨sqB1 HB GE335⟩⟩
    rw [if_neg c87] at H
    have c87b0 : decide (t362 < 0) = false := decide_eq_false c87
    clear c87
    (first | rw [c87b0] | (simp only [i64_w, i32_w]; rw [c87b0]) | skip)
    by_cases c88 : t362 > 9999999
    ·rw [if_pos c88] at H
     have c88b0 : decide (9999999 < t362) = true := decide_eq_true c88
     clear c88
     have H' := Aside0.mk H
     clear H
     go_wp2
     go_meet
     case rel => exact ⟨_, (true), Z2, H', ⟨Z12⟩, ⟨sqK BK335⟩, ⟨sqB1 HB GE335⟩⟩
    rw [if_neg c88] at H
    have c88b0 : decide (9999999 < t362) = false := decide_eq_false c88
    clear c88
    obtain ⟨t365, A89, H⟩ := sqD H
    have H' := Aside0.mk H
    clear H
    go_wp2_with (first | (go_at_call 144; (with_reducible refine (strconv_Itoa.calls t362 t365 _ ?sideG A89.out).mono ?_); (case sideG => exact Z7 GE335); rintro e w90 ⟨rfl, hb⟩; replace BK335 := sqT BK335 hb; replace HB := sqS (sqB1 HB GE335) hb; (try clear hb)))
    go_meet
    case rel => exact ⟨_, ((t365.toList != t360.toList)), Z2, H', ⟨Z12⟩, ⟨sqK BK335⟩, ⟨sqB1 HB GE335⟩⟩
   ·obtain ⟨qz_, rfl⟩ := isNone_some hq_t363
    have H1 : (impl_asked.j0 k t362 true a0_0 a0_1) = some r := by rw [if_neg (show ¬ (some q364).isNone = true by simp)] at H; exact H
    clear H
    have H := H1
    clear H1
    try simp only [errP_none, errP_some]
    have H' := Aside0.mk H
    clear H
    go_wp2
    go_meet
    case rel => exact ⟨_, (true), Z2, H', ⟨Z12⟩, ⟨sqK BK335⟩, ⟨sqB1 HB GE335⟩⟩
  replace c86 := Bool.eq_false_iff.mpr c86
  subst c86
  rw [if_neg sqF] at H
  have H' := Aside0.mk H
  clear H
  go_wp2
  go_meet
  case rel => exact ⟨_, (true), Z2, H', ⟨Z12⟩, ⟨sqK BK335⟩, ⟨sqB1 HB GE335⟩⟩
 case rest =>
  clear HC83
  try clear c3; try clear c3b0; try clear c3b1; try clear c8; try clear c8b0; try clear c8b1; try clear c21; try clear c21b0; try clear c21b1; try clear c33; try clear c33b0; try clear c33b1; try clear c40; try clear c40b0; try clear c40b1; try clear c48; try clear c48b0; try clear c48b1; try clear c55; try clear c55b0; try clear c55b1
  obtain ⟨kq, x100_82, rfl, HA, HJ82, BK335, HB⟩ := hcut
  cases kq with
  | zero => exact absurd HA.out (by simp [impl_asked.j0])
  | succ kj82 =>
   have H := HA.out
   clear HA
   simp only [impl_asked.j0] at H
   by_cases c91 : x100_82 = true
   ·subst c91
    rw [if_pos rfl] at H
    obtain rfl := Option.some.inj H
    go_wp2
    go_ret
    exact ⟨Z6, sqB1 HB GE335⟩
   replace c91 := Bool.eq_false_iff.mpr c91
   subst c91
   rw [if_neg sqF] at H
   have HC92 := Aside0.mk H
   clear H
   go_upto_region 29 with (fail)
   go_cut [106] (fun v106 wc => ∃ (kq : Nat) (x106_91 : Bool), v106 = .bool x106_91 ∧ Aside0 (impl_asked.j1 kq t362 x106_91 a0_0 a0_1 = some r) ∧ Aside0 (kq ≤ kj82) ∧ Aside0 (wc.heap[gb335]? = some (.cells #[.int .i64 a0_0, .int .i64 a0_1] 31 (0, 0))) ∧ Aside0 (Below w.heap.size w wc))
   case first =>
    have H := HC92.out
    clear HC92
    by_cases c93 : t362 < 1
    ·rw [if_pos c93] at H
     have c93b0 : decide (t362 < 1) = true := decide_eq_true c93
     clear c93
     (first | rw [c93b0] | (simp only [i64_w, i32_w]; rw [c93b0]) | skip)
     have H' := Aside0.mk H
     clear H
     go_wp2
     go_meet
     case rel => exact ⟨_, (true), Z2, H', ⟨by have := HJ82.out; first | omega | exact Nat.le_refl _⟩, ⟨sqK BK335⟩, ⟨sqB1 HB GE335⟩⟩
    rw [if_neg c93] at H
    have c93b0 : decide (t362 < 1) = false := decide_eq_false c93
    clear c93
    (first | rw [c93b0] | (simp only [i64_w, i32_w]; rw [c93b0]) | skip)
    have H' := Aside0.mk H
    clear H
    go_wp2
    go_meet
    case rel => exact ⟨_, (decide (t362 > 12)), Z2, H', ⟨by have := HJ82.out; first | omega | exact Nat.le_refl _⟩, ⟨sqK BK335⟩, ⟨sqB1 HB GE335⟩⟩
   case rest =>
    clear HC92
    try clear c1; try clear c2; try clear p2; try clear c3; try clear c3b0; try clear c3b1; try clear q3; try clear c4; try clear c5; try clear c6; try clear c7; try clear c8; try clear c8b0; try clear c8b1; try clear c10; try clear c12; try clear c12b0; try clear c12b1; try clear c12b2; try clear c14; try clear c15; try clear c21; try clear c21b0; try clear c21b1; try clear c23; try clear c33; try clear c33b0; try clear c33b1; try clear q36; try clear c40; try clear c40b0; try clear c40b1; try clear c48; try clear c48b0; try clear c48b1; try clear c55; try clear c55b0; try clear c55b1; try clear c57; try clear c60; try clear c60b0; try clear c60b1; try clear c60b2; try clear c62; try clear c62b0; try clear c62b1; try clear c62b2; try clear c67; try clear c79; try clear c86; try clear c87; try clear c87b0; try clear c88; try clear c88b0; try clear c91; try clear hcz14_0; try clear hcz14_1; try clear hcz16_0; try clear hcz16_1; try clear hcz19_0; try clear hcz19_1; try clear hcz26_0; try clear hcz26_1; try clear hcz31_0; try clear hcz31_1; try clear hcz37_0; try clear hcz37_1; try clear hcz44_0; try clear hcz44_1; try clear hcz52_0; try clear hcz52_1; try clear hcz64_0; try clear hcz64_1; try clear hcz68_0; try clear hcz68_1; try clear hcz6_0; try clear hcz6_1; try clear hcz70_0; try clear hcz70_1; try clear hcz76_0; try clear hcz76_1; try clear hcz80_0; try clear hcz80_1; try clear hfz14_0; try clear hfz14_1; try clear hfz16_0; try clear hfz16_1; try clear hfz19_0; try clear hfz19_1; try clear hfz26_0; try clear hfz26_1; try clear hfz31_0; try clear hfz31_1; try clear hfz37_0; try clear hfz37_1; try clear hfz44_0; try clear hfz44_1; try clear hfz52_0; try clear hfz52_1; try clear hfz64_0; try clear hfz64_1; try clear hfz68_0; try clear hfz68_1; try clear hfz6_0; try clear hfz6_1; try clear hfz70_0; try clear hfz70_1; try clear hfz76_0; try clear hfz76_1; try clear hfz80_0; try clear hfz80_1; try clear p2; try clear q3; try clear q36; try clear q364
    obtain ⟨kq, x106_91, rfl, HA, HJ91, BK335, HB⟩ := hcut
    cases kq with
    | zero => exact absurd HA.out (by simp [impl_asked.j1])
    | succ kj91 =>
     have H := HA.out
     clear HA
     simp only [impl_asked.j1] at H
     by_cases c94 : x106_91 = true
     ·subst c94
      rw [if_pos rfl] at H
      obtain rfl := Option.some.inj H
      go_wp2
      go_ret
      exact ⟨Z6, sqB1 HB GE335⟩
     replace c94 := Bool.eq_false_iff.mpr c94
     subst c94
     rw [if_neg sqF] at H
     obtain ⟨t366, A95, H⟩ := sqD H
     obtain ⟨t367, A96, H⟩ := sqD H
     obtain rfl := Option.some.inj H
     obtain ⟨hcz97_0, hcz97_1, hfz97_0, hfz97_1⟩ := sqY2 BK335
     go_wp2_with (first | ((with_reducible refine gate_callee (f := 152) rfl ?_); refine sqC (some 109) Tryz.func152 #[.agg #[.int .i64 a0_0, .int .i64 a0_1], .int .i64 t362] ?_; (with_reducible refine (impl_TiedFor.calls kj91 a0_0 a0_1 t362 t366 _ A95.out).mono ?_); rintro e w98 ⟨rfl, hb⟩; refine ⟨_, rfl, ?_⟩; replace BK335 := sqT BK335 hb; replace HB := sqS (sqB1 HB GE335) hb; (try clear hb)) | ((with_reducible refine gate_callee (f := 144) rfl ?_); refine sqC (some 110) Tryz.func144 #[.int .i64 t366] ?_; (with_reducible refine (strconv_Itoa.calls t366 t367 _ ?sideG A96.out).mono ?_); (case sideG => exact Z7 GE335); rintro e w99 ⟨rfl, hb⟩; refine ⟨_, rfl, ?_⟩; replace BK335 := sqT BK335 hb; replace HB := sqS (sqB1 HB GE335) hb; (try clear hb)))
     go_ret
     exact ⟨Z6, sqB1 HB GE335⟩

end Go.Proofs.YtofmlbgfcohhoaaGreatDoor.PFnExactDeskLine
