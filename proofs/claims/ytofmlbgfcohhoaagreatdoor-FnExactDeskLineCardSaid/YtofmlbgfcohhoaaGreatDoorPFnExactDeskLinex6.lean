/- Lean functions of the Go functions that the law FnExactDeskLine reaches, each with its contract: made by a program of this session. -/
import Derived.Test.YtofmlbgfcohhoaaGreatDoorPFnExactDeskLinex5
namespace Go.Proofs.YtofmlbgfcohhoaaGreatDoor.PFnExactDeskLine
open Go.RowKit Go.Proofs.YtofmlbgfcohhoaaGreatDoorW.PrintWords Go.Proofs.YtofmlbgfcohhoaaGreatDoorW.PrintLast Go.Proofs.YtofmlbgfcohhoaaGreatDoorW.PrintMore Go.Proofs.YtofmlbgfcohhoaaGreatDoor.Lib
attribute [local go_sem] max2_int min2_int max_two min_two max_three min_three max_four min_four   -- for this text's walks alone
set_option linter.unusedVariables false
set_option linter.unusedSimpArgs false

/-! ### impl_isSmall: function 104 -/
def impl_isSmall.f (k : Nat) (a0_0 : Int) (a0_1 : Int) (a1 : Int) : Option (Bool) := (impl_isFraction.f k a0_0 a0_1).bind fun t184 => (if t184 = true then (if a0_0 ≥ (wrap64 (-a1)) then (if a0_0 ≤ a1 then (some (decide (a0_1 ≤ a1))) else (some false)) else (some false)) else (some false))
theorem impl_isSmall.mono : ∀ a0 a1 a2 k, LeO (impl_isSmall.f k a0 a1 a2) (impl_isSmall.f (k + 1) a0 a1 a2) := by
 intro a0 a1 a2 k
 unfold impl_isSmall.f
 repeat' (with_reducible first | exact impl_isFraction.mono _ _ _ | exact LeO.refl _ | exact LeO.none _ | refine LeO.ite ?_ ?_ | refine LeO.bind ?_ fun _ => ?_)
set_option maxHeartbeats 8000000 in
set_option maxRecDepth 100000 in
theorem impl_isSmall.calls (k : Nat) (a0_0 : Int) (a0_1 : Int) (a1 : Int) (r : Bool) (w : World) (h : impl_isSmall.f k a0_0 a0_1 a1 = some r) :
  Calls Tryz.prog 104 #[.agg #[.int .i64 a0_0, .int .i64 a0_1], .int .i64 a1] w fun e w' => e = .returned (.bool r) ∧ Below w.heap.size w w' := by
 have hu31 := Tryz.underlying31
 have HB := Aside0.mk (Below.refl w.heap.size w)
 unfold impl_isSmall.f at h
 have H := h
 clear h
 obtain ⟨t184, A3, H⟩ := sqD H
 by_cases c4 : t184 = true
 ·subst c4
  rw [if_pos rfl] at H
  by_cases c5 : a0_0 ≥ (wrap64 (-a1))
  ·rw [if_pos c5] at H
   have c5b0 : decide ((wrap64 (-a1)) ≤ a0_0) = true := decide_eq_true c5
   clear c5
   by_cases c6 : a0_0 ≤ a1
   ·rw [if_pos c6] at H
    have c6b0 : decide (a0_0 ≤ a1) = true := decide_eq_true c6
    clear c6
    obtain rfl := Option.some.inj H
    go_enter Tryz.func104, Tryz.ntmps104
    go_wp2_with (first | ((with_reducible refine gate_dst (N := 2) rfl ?_); refine sqBx w (sqB HB) (N := 2) (cs := #[.int .i64 a0_0, .int .i64 a0_1]) (t := 31) ?_; intro gb183 hg w7 BK183 GE183 HB hb; clear hb hg; obtain ⟨hcz8_0, hcz8_1, hfz8_0, hfz8_1⟩ := sqY2 BK183) | ((with_reducible refine gate_callee (f := 70) rfl ?_); refine sqC (some 6) Tryz.func70 #[.agg #[.int .i64 a0_0, .int .i64 a0_1]] ?_; (with_reducible refine (impl_isFraction.calls k a0_0 a0_1 true _ A3.out).mono ?_); rintro e w9 ⟨rfl, hb⟩; refine ⟨_, rfl, ?_⟩; replace BK183 := sqT BK183 hb; replace HB := sqS (sqB1 HB GE183) hb; (try clear hb); obtain ⟨hcz10_0, hcz10_1, hfz10_0, hfz10_1⟩ := sqY2 BK183))
    go_ret
    exact ⟨Z6, sqB1 HB GE183⟩
   rw [if_neg c6] at H
   have c6b0 : decide (a0_0 ≤ a1) = false := decide_eq_false c6
   clear c6
   obtain rfl := Option.some.inj H
   go_enter Tryz.func104, Tryz.ntmps104
   go_wp2_with (first | ((with_reducible refine gate_dst (N := 2) rfl ?_); refine sqBx w (sqB HB) (N := 2) (cs := #[.int .i64 a0_0, .int .i64 a0_1]) (t := 31) ?_; intro gb183 hg w11 BK183 GE183 HB hb; clear hb hg; obtain ⟨hcz12_0, hcz12_1, hfz12_0, hfz12_1⟩ := sqY2 BK183) | ((with_reducible refine gate_callee (f := 70) rfl ?_); refine sqC (some 6) Tryz.func70 #[.agg #[.int .i64 a0_0, .int .i64 a0_1]] ?_; (with_reducible refine (impl_isFraction.calls k a0_0 a0_1 true _ A3.out).mono ?_); rintro e w13 ⟨rfl, hb⟩; refine ⟨_, rfl, ?_⟩; replace BK183 := sqT BK183 hb; replace HB := sqS (sqB1 HB GE183) hb; (try clear hb); obtain ⟨hcz14_0, hcz14_1, hfz14_0, hfz14_1⟩ := sqY2 BK183))
   go_ret
   exact ⟨Z6, sqB1 HB GE183⟩
  rw [if_neg c5] at H
  have c5b0 : decide ((wrap64 (-a1)) ≤ a0_0) = false := decide_eq_false c5
  clear c5
  obtain rfl := Option.some.inj H
  go_enter Tryz.func104, Tryz.ntmps104
  go_wp2_with (first | ((with_reducible refine gate_dst (N := 2) rfl ?_); refine sqBx w (sqB HB) (N := 2) (cs := #[.int .i64 a0_0, .int .i64 a0_1]) (t := 31) ?_; intro gb183 hg w15 BK183 GE183 HB hb; clear hb hg; obtain ⟨hcz16_0, hcz16_1, hfz16_0, hfz16_1⟩ := sqY2 BK183) | ((with_reducible refine gate_callee (f := 70) rfl ?_); refine sqC (some 6) Tryz.func70 #[.agg #[.int .i64 a0_0, .int .i64 a0_1]] ?_; (with_reducible refine (impl_isFraction.calls k a0_0 a0_1 true _ A3.out).mono ?_); rintro e w17 ⟨rfl, hb⟩; refine ⟨_, rfl, ?_⟩; replace BK183 := sqT BK183 hb; replace HB := sqS (sqB1 HB GE183) hb; (try clear hb); obtain ⟨hcz18_0, hcz18_1, hfz18_0, hfz18_1⟩ := sqY2 BK183))
  go_ret
  exact ⟨Z6, sqB1 HB GE183⟩
 replace c4 := Bool.eq_false_iff.mpr c4
 subst c4
 rw [if_neg sqF] at H
 obtain rfl := Option.some.inj H
 go_enter Tryz.func104, Tryz.ntmps104
 go_wp2_with (first | ((with_reducible refine gate_dst (N := 2) rfl ?_); refine sqBx w (sqB HB) (N := 2) (cs := #[.int .i64 a0_0, .int .i64 a0_1]) (t := 31) ?_; intro gb183 hg w19 BK183 GE183 HB hb; clear hb hg; obtain ⟨hcz20_0, hcz20_1, hfz20_0, hfz20_1⟩ := sqY2 BK183) | ((with_reducible refine gate_callee (f := 70) rfl ?_); refine sqC (some 6) Tryz.func70 #[.agg #[.int .i64 a0_0, .int .i64 a0_1]] ?_; (with_reducible refine (impl_isFraction.calls k a0_0 a0_1 false _ A3.out).mono ?_); rintro e w21 ⟨rfl, hb⟩; refine ⟨_, rfl, ?_⟩; replace BK183 := sqT BK183 hb; replace HB := sqS (sqB1 HB GE183) hb; (try clear hb)))
 go_ret
 exact ⟨Z6, sqB1 HB GE183⟩

-- given: function 84 (strings_Cut)

-- given: function 144 (strconv_Itoa)

/-! ### impl_fractionText: function 141 -/
def impl_fractionText.f (a0_0 : Int) (a0_1 : Int) : Option (ByteArray) := if a0_1 = 1 then ((strconv_Itoa.f a0_0).bind fun t186 => (some t186)) else ((strconv_Itoa.f a0_0).bind fun t187 => (if t187.size + 1 ≤ 9223372036854775807 then ((strconv_Itoa.f a0_1).bind fun t188 => (if (t187 ++ (⟨#[47]⟩ : ByteArray)).size + t188.size ≤ 9223372036854775807 then (some ((t187 ++ (⟨#[47]⟩ : ByteArray)) ++ t188)) else (none))) else (none)))
def impl_fractionText.T3 : Bool × List (List Nat × List Nat) := (true, [([], []), ([0], [0]), ([1], [1]), ([2], [2]), ([], []), ([4], [4]), ([5, 2], [5]), ([3, 6], [3, 6]), ([7, 6, 0, 1, 2, 3, 4, 5, 6, 7], [7])])
def impl_fractionText.B3 : List Nat := [0, 1, 3, 7, 0, 16, 55, 127, 255]
theorem impl_fractionText.tab3 : rtab .any (opsOf Tryz.f141 3) = impl_fractionText.T3 := by kernel_rfl
theorem impl_fractionText.bits3 : waitsOk impl_fractionText.T3.2 impl_fractionText.B3 = true := by kernel_rfl
set_option maxHeartbeats 8000000 in
set_option maxRecDepth 100000 in
theorem impl_fractionText.calls (a0_0 : Int) (a0_1 : Int) (r : ByteArray) (w : World) (hG : Glob w) (h : impl_fractionText.f a0_0 a0_1 = some r) :
  Calls Tryz.prog 141 #[.agg #[.int .i64 a0_0, .int .i64 a0_1]] w fun e w' => e = .returned (.string r) ∧ Below w.heap.size w w' := by
 have hu31 := Tryz.underlying31
 have HB := Aside0.mk (Below.refl w.heap.size w)
 unfold impl_fractionText.f at h
 have H := h
 clear h
 by_cases c2 : a0_1 = 1
 ·rw [if_pos c2] at H
  have c2b0 : (a0_1 == 1) = true := beq_iff_eq.mpr c2
  have c2b1 : (a0_1 != 1) = false := bne_eq_false_iff_eq.mpr c2
  clear c2
  obtain ⟨t186, A3, H⟩ := sqD H
  obtain rfl := Option.some.inj H
  go_enter Tryz.func141, Tryz.ntmps141
  go_wp2_with (first | ((with_reducible refine gate_dst (N := 1) rfl ?_); refine sqBx w (sqB HB) (N := 1) (cs := #[.int .i64 a0_0, .int .i64 a0_1]) (t := 31) ?_; intro gb185 hg w4 BK185 GE185 HB hb; clear hb hg; obtain ⟨hcz5_0, hcz5_1, hfz5_0, hfz5_1⟩ := sqY2 BK185) | ((with_reducible refine gate_callee (f := 144) rfl ?_); refine sqC (some 8) Tryz.func144 #[.int .i64 a0_0] ?_; (with_reducible refine (strconv_Itoa.calls a0_0 t186 _ ?sideG A3.out).mono ?_); (case sideG => exact Z7 GE185); rintro e w6 ⟨rfl, hb⟩; refine ⟨_, rfl, ?_⟩; replace BK185 := sqT BK185 hb; replace HB := sqS (sqB1 HB GE185) hb; (try clear hb)))
  go_ret
  exact ⟨Z6, sqB1 HB GE185⟩
 rw [if_neg c2] at H
 have c2b0 : (a0_1 == 1) = false := beq_eq_false_iff_ne.mpr c2
 have c2b1 : (a0_1 != 1) = true := bne_iff_ne.mpr c2
 obtain ⟨t187, A7, H⟩ := sqD H
 obtain ⟨c8, H⟩ := sqI H
 have c8b0 := eq_true c8
 have c8b1 : decide (t187.size + 1 ≤ 9223372036854775807) = true := decide_eq_true c8
 try have c8b2 : (9223372036854775807 < t187.size + 1) = False := eq_false (Nat.not_lt.2 c8)
 obtain ⟨t188, A9, H⟩ := sqD H
 obtain ⟨c10, H⟩ := sqI H
 have c10b0 := eq_true c10
 have c10b1 : decide ((t187 ++ (⟨#[47]⟩ : ByteArray)).size + t188.size ≤ 9223372036854775807) = true := decide_eq_true c10
 try have c10b2 : (9223372036854775807 < (t187 ++ (⟨#[47]⟩ : ByteArray)).size + t188.size) = False := eq_false (Nat.not_lt.2 c10)
 try have c10b7 : (9223372036854775807 < t187.size + 1 + t188.size) = False := by (have h_ := c10b2; (repeat rw [ByteArray.size_append] at h_); exact h_)
 obtain rfl := Option.some.inj H
 go_enter Tryz.func141, Tryz.ntmps141
 try go_wp2_with (first | ((with_reducible refine gate_dst (N := 1) rfl ?_); refine sqBx w (sqB HB) (N := 1) (cs := #[.int .i64 a0_0, .int .i64 a0_1]) (t := 31) ?_; intro gb185 hg w11 BK185 GE185 HB hb; clear hb hg; obtain ⟨hcz12_0, hcz12_1, hfz12_0, hfz12_1⟩ := sqY2 BK185))
 replace BK185 := Aside0.mk (blk_drew BK185.out)
 replace HB := Aside0.mk (below_drew1 HB.out)
 refine start_ (n := 9) (S := fun w' => w'.cell? ⟨gb185, 0, none⟩ = some (.int .i64 a0_0) ∧ w'.cell? ⟨gb185, 1, none⟩ = some (.int .i64 a0_1)) (ds := []) #[false, false, false, false, false, false, false, false, false] (by kernel_rfl) rfl rfl ⟨(blk_cell BK185.out 0).trans rfl, (blk_cell BK185.out 1).trans rfl⟩ (fun hHeld => ?_); refine with_tabW impl_fractionText.tab3 impl_fractionText.bits3 (fun HT_ HW_ => ?_)
 generalize w11.drew = w13 at BK185 HB hHeld ⊢
 refine sqP (i := 0) (N := some 9) (h := ?_)
 refine sqP (i := 4) (N := some 13) (h := ?_)
 refine sqQ (i := 1) (N := some 10) hHeld (h := ?_)
 refine sqQ (i := 5) (N := some 14) hHeld (h := ?_)
 refine one_ (i := 2) (N := some 11) #[true, true, true, false, true, true, false, false, false] rfl rfl (one_of HT_.out (by kernel_rfl)) (by decide) (fun K hK => ?_)
 refine goes_ Tryz.func144 (by kernel_rfl) rfl #[.int .i64 a0_0] (by rfl) rfl rfl sqA ?_
 with_reducible refine (strconv_Itoa.calls a0_0 t187 _ ?sideG A7.out).mono ?_
 (case sideG => exact Z7 GE185)
 rintro e w14 ⟨rfl, hb⟩
 refine ⟨_, rfl, ?_⟩
 replace BK185 := sqT BK185 hb
 replace HB := sqS (sqB1 HB GE185) hb
 (try clear hb)
 (try clear hb2)
 (try clear hk)
 (try clear hi)
 refine hK.out _ _ ⟨(blk_cell BK185.out 0).trans rfl, (blk_cell BK185.out 1).trans rfl⟩ (fun hHeld => ?_)
 clear hK K
 refine sqN (some 11) ?_
 refine sqP (i := 3) (N := some 12) (h := ?_)
 refine one_ (i := 6) (N := some 15) #[true, true, true, true, true, true, true, false, false] rfl rfl (one_of HT_.out (by kernel_rfl)) (by decide) (fun K hK => ?_)
 refine goes_ Tryz.func144 (by kernel_rfl) rfl #[.int .i64 a0_1] (by rfl) rfl rfl sqA ?_
 with_reducible refine (strconv_Itoa.calls a0_1 t188 _ ?sideG A9.out).mono ?_
 (case sideG => exact Z7 GE185)
 rintro e w15 ⟨rfl, hb⟩
 refine ⟨_, rfl, ?_⟩
 replace BK185 := sqT BK185 hb
 replace HB := sqS (sqB1 HB GE185) hb
 (try clear hb)
 (try clear hb2)
 (try clear hk)
 (try clear hi)
 refine hK.out _ _ ⟨(blk_cell BK185.out 0).trans rfl, (blk_cell BK185.out 1).trans rfl⟩ (fun hHeld => ?_)
 clear hK K
 refine sqN (some 15) ?_
 refine sqP (i := 7) (N := some 16) (h := ?_)
 refine sqP (i := 8) (N := some 2) (h := ?_)
 refine done_ (done_of HT_.out (by kernel_rfl)) ?_
 try go_wp2
 go_ret
 exact ⟨Z6, sqB1 HB GE185⟩

-- given: function 151 (strconv_Atoi)

/-! ### impl_ReadFraction: function 126 -/
def impl_ReadFraction.j0 : Nat → ByteArray → Int → Option Int → Int → Option (Int × Int × Bool)
 | 0, _, _, _, _ => none
 | k + 1, x0, x7, x8, x9 => if x8.isNone = true then ((impl_isFraction.f k x7 x9).bind fun t200 => (if t200 = true then ((impl_fractionText.f x7 x9).bind fun t201 => (if t201.toList = x0.toList then (some (x7, x9, true)) else (some (0, 0, false)))) else (some (0, 0, false)))) else (some (0, 0, false))
def impl_ReadFraction.f (k : Nat) (a0 : ByteArray) : Option (Int × Int × Bool) := (strings_Cut.f a0 (⟨#[47]⟩ : ByteArray)).bind fun bt190 => ((strconv_Atoi.f bt190.1).bind fun bt193 => (if bt190.2.2 = true then ((strconv_Atoi.f bt190.2.1).bind fun bt195 => (if bt195.2.isNone = true then (impl_ReadFraction.j0 k a0 bt193.1 bt193.2 bt195.1) else (some (0, 0, false)))) else (impl_ReadFraction.j0 k a0 bt193.1 bt193.2 1)))
abbrev impl_ReadFraction.M (k : Nat) : Prop := (∀ y0 y1 y2 y3, LeO (impl_ReadFraction.j0 k y0 y1 y2 y3) (impl_ReadFraction.j0 (k + 1) y0 y1 y2 y3))
theorem impl_ReadFraction.mono_t : ∀ k, impl_ReadFraction.M k → impl_ReadFraction.M (k + 1) ∧ ∀ a0, LeO (impl_ReadFraction.f k a0) (impl_ReadFraction.f (k + 1) a0) := by
  rintro k ih0
  refine ⟨?_, ?_⟩ <;> (try unfold impl_ReadFraction.M) <;> intros <;> (first | unfold impl_ReadFraction.j0 | unfold impl_ReadFraction.f) <;> repeat' (with_reducible first | exact ih0 _ _ _ _ | exact impl_isFraction.mono _ _ _ | exact LeO.refl _ | exact LeO.none _ | refine LeO.ite ?_ ?_ | refine LeO.bind ?_ fun _ => ?_)
theorem impl_ReadFraction.mono_l : ∀ k, impl_ReadFraction.M k
 | 0 => fun _ _ _ _ r h => by simp [impl_ReadFraction.j0] at h
 | k + 1 => (impl_ReadFraction.mono_t k (impl_ReadFraction.mono_l k)).1
theorem impl_ReadFraction.mono a0 k : LeO (impl_ReadFraction.f k a0) (impl_ReadFraction.f (k + 1) a0) := (impl_ReadFraction.mono_t k (impl_ReadFraction.mono_l k)).2 a0
set_option maxHeartbeats 8000000 in
set_option maxRecDepth 100000 in
theorem impl_ReadFraction.calls (k : Nat) (a0 : ByteArray) (r1 : Int) (r2 : Int) (r3 : Bool) (w : World) (hG : Glob w) (h : impl_ReadFraction.f k a0 = some (r1, r2, r3)) :
  Calls Tryz.prog 126 #[.string a0] w fun e w' => e = .returned (.tuple #[.agg #[.int .i64 r1, .int .i64 r2], .bool r3]) ∧ Below w.heap.size w w' := by
 have hu31 := Tryz.underlying31
 have hu150 := Tryz.underlying150
 have HB := Aside0.mk (Below.refl w.heap.size w)
 unfold impl_ReadFraction.f at h
 have H := h
 clear h
 obtain ⟨⟨t190, t191, t192⟩, A2, H⟩ := sqD H
 try dsimp only at H
 obtain ⟨⟨t193, t194⟩, A3, H⟩ := sqD H
 try dsimp only at H
 have HC4 := Aside0.mk H
 clear H
 go_enter Tryz.func126, Tryz.ntmps126
 go_upto_if 24 with (first | ((with_reducible refine gate_dst (N := 2) rfl ?_); refine sqBx w (sqB HB) (N := 2) (cs := #[.int .i64 0, .int .i64 0]) (t := 31) ?_; intro gb189 hg w5 BK189 GE189 HB hb; clear hb hg) | ((with_reducible refine gate_callee (f := 84) rfl ?_); refine sqC (some 15) Tryz.func84 #[.string a0, .string (⟨#[47]⟩ : ByteArray)] ?_; (with_reducible refine (strings_Cut.calls a0 (⟨#[47]⟩ : ByteArray) t190 t191 t192 _ ?sideG A2.out).mono ?_); (case sideG => exact Z7 GE189); rintro e w6 ⟨rfl, hb⟩; refine ⟨_, rfl, ?_⟩; replace BK189 := sqT BK189 hb; replace HB := sqS (sqB1 HB GE189) hb; (try clear hb)) | ((with_reducible refine gate_callee (f := 151) rfl ?_); refine sqC (some 21) Tryz.func151 #[.string t190] ?_; (with_reducible refine (strconv_Atoi.calls t190 t193 t194 _ ?sideG A3.out).mono ?_); (case sideG => exact Z7 GE189); rintro e w7 ⟨q_t194, hq_t194, rfl, hb⟩; refine ⟨_, rfl, ?_⟩; replace BK189 := sqT BK189 hb; replace HB := sqS (sqB1 HB GE189) hb; (try clear hb); (try simp only [errP_none, errP_some])))
 (try simp only [Act.put, List.setIfInBounds_toArray, List.set_cons_zero, List.set_cons_succ])
 go_cut [9] (fun v9 wc => ∃ (kq : Nat) (x9_3 : Int) (x190000_3 : Int) (x190001_3 : Int), v9 = .int .i64 x9_3 ∧ Aside0 (impl_ReadFraction.j0 kq a0 t193 t194 x9_3 = some (r1, r2, r3)) ∧ Aside0 (kq ≤ k) ∧ Aside0 (wc.heap[gb189]? = some (.cells #[.int .i64 x190000_3, .int .i64 x190001_3] 31 (0, 0))) ∧ Aside0 (Below w.heap.size w wc))
 case first =>
  have H := HC4.out
  clear HC4
  by_cases c8 : t192 = true
  ·subst c8
   rw [if_pos rfl] at H
   obtain ⟨⟨t195, t196⟩, A9, H⟩ := sqD H
   try dsimp only at H
   rcases t196 with _ | q197
   ·have H1 : (impl_ReadFraction.j0 k a0 t193 t194 t195) = some (r1, r2, r3) := by rw [if_pos (show (none : Option Int).isNone = true by rfl)] at H; exact H
    clear H
    have H := H1
    clear H1
    try simp only [errP_none, errP_some]
    have H' := Aside0.mk H
    clear H
    go_wp2_with (first | ((with_reducible refine gate_callee (f := 151) rfl ?_); refine sqC (some 27) Tryz.func151 #[.string t191] ?_; (with_reducible refine (strconv_Atoi.calls t191 t195 none _ ?sideG A9.out).mono ?_); (case sideG => exact Z7 GE189); rintro e w10 ⟨qe, hqe, rfl, hb⟩; obtain rfl := isNone_none hqe; refine ⟨_, rfl, ?_⟩; replace BK189 := sqT BK189 hb; replace HB := sqS (sqB1 HB GE189) hb; (try clear hb); (try simp only [errP_none, errP_some])))
    go_meet
    case rel => exact ⟨_, (t195), (0), (0), Z2, H', ⟨Z12⟩, ⟨sqK BK189⟩, ⟨sqB1 HB GE189⟩⟩
   ·have H1 : (some (0, 0, false)) = some (r1, r2, r3) := by rw [if_neg (show ¬ (some q197).isNone = true by simp)] at H; exact H
    clear H
    have H := H1
    clear H1
    try simp only [errP_none, errP_some]
    obtain ⟨rfl, rfl, rfl⟩ := sqO3 H
    go_wp2_with (first | ((with_reducible refine gate_callee (f := 151) rfl ?_); refine sqC (some 27) Tryz.func151 #[.string t191] ?_; (with_reducible refine (strconv_Atoi.calls t191 t195 (some q197) _ ?sideG A9.out).mono ?_); (case sideG => exact Z7 GE189); rintro e w11 ⟨qe, hqe, rfl, hb⟩; obtain ⟨qz, rfl⟩ := isNone_some hqe; refine ⟨_, rfl, ?_⟩; replace BK189 := sqT BK189 hb; replace HB := sqS (sqB1 HB GE189) hb; (try clear hb); (try simp only [errP_none, errP_some]); obtain ⟨hcz12_0, hcz12_1, hfz12_0, hfz12_1⟩ := sqY2 BK189))
    refine bodyPost_ret (results_ct rfl _ _ gb189 31 #[.int .i64 0, .int .i64 0] (0, 0) _ rfl (Z27 BK189) Tryz.underlying31 rfl (by kernel_rfl)) rfl ?_
    exact ⟨Z6, sqB1 HB GE189⟩
  replace c8 := Bool.eq_false_iff.mpr c8
  subst c8
  rw [if_neg sqF] at H
  have H' := Aside0.mk H
  clear H
  go_wp2
  go_meet
  case rel => exact ⟨_, (1), (0), (0), Z2, H', ⟨Z12⟩, ⟨sqK BK189⟩, ⟨sqB1 HB GE189⟩⟩
 case rest =>
  clear HC4
  obtain ⟨kq, x9_3, x190000_3, x190001_3, rfl, HA, HJ3, BK189, HB⟩ := hcut
  cases kq with
  | zero => exact absurd HA.out (by simp [impl_ReadFraction.j0])
  | succ kj3 =>
   have H := HA.out
   clear HA
   simp only [impl_ReadFraction.j0] at H
   rcases t194 with _ | q199
   ·obtain rfl := isNone_none hq_t194
    have H1 : ((impl_isFraction.f kj3 t193 x9_3).bind fun t200 => (if t200 = true then ((impl_fractionText.f t193 x9_3).bind fun t201 => (if t201.toList = a0.toList then (some (t193, x9_3, true)) else (some (0, 0, false)))) else (some (0, 0, false)))) = some (r1, r2, r3) := by rw [if_pos (show (none : Option Int).isNone = true by rfl)] at H; exact H
    clear H
    have H := H1
    clear H1
    try simp only [errP_none, errP_some]
    obtain ⟨t200, A13, H⟩ := sqD H
    by_cases c14 : t200 = true
    ·subst c14
     rw [if_pos rfl] at H
     obtain ⟨t201, A15, H⟩ := sqD H
     by_cases c16 : t201.toList = a0.toList
     ·rw [if_pos c16] at H
      have c16b0 : (t201.toList == a0.toList) = true := beq_iff_eq.mpr c16
      have c16b1 : (t201.toList != a0.toList) = false := bne_eq_false_iff_eq.mpr c16
      clear c16
      obtain ⟨rfl, rfl, rfl⟩ := sqO3 H
      go_wp2_with (first | ((with_reducible refine gate_dst (N := 12) rfl ?_); refine sqBx w (sqB1 HB GE189) (N := 12) (cs := #[.int .i64 0, .int .i64 0]) (t := 31) ?_; intro gb198 hg w17 BK198 GE198 HB hb; obtain ⟨NB189_198, NB198_189⟩ := sqM hg BK189; replace BK189 := sqT BK189 hb; clear hb hg; have hnb18 := NB198_189.out; have hnc18 := NB189_198.out; obtain ⟨hcz19_0, hcz19_1, hfz19_0, hfz19_1⟩ := sqY2 BK198) | (go_at_call 70; (with_reducible refine (impl_isFraction.calls kj3 t193 x9_3 true _ A13.out).mono ?_); rintro e w20 ⟨rfl, hb⟩; replace BK189 := sqH NB189_198 BK189 hb; replace BK198 := Aside0.mk (blk_below (g := gb198) (o := .cells #[.int .i64 t193, .int .i64 x9_3] 31 (0, 0)) (Z77 BK198) hb); replace HB := sqS (sqB2 HB GE189 GE198) hb; (try clear hb); obtain ⟨hcz21_0, hcz21_1, hfz21_0, hfz21_1⟩ := sqY2 BK198) | (go_at_call 141; (with_reducible refine (impl_fractionText.calls t193 x9_3 t201 _ ?sideG A15.out).mono ?_); (case sideG => exact Z11 GE189 GE198); rintro e w22 ⟨rfl, hb⟩; replace BK189 := sqT BK189 hb; replace BK198 := sqT BK198 hb; replace HB := sqS (sqB2 HB GE189 GE198) hb; (try clear hb); obtain ⟨hcz23_0, hcz23_1, hfz23_0, hfz23_1⟩ := sqY2 BK198; obtain ⟨hcz24_0, hcz24_1, hfz24_0, hfz24_1⟩ := sqY2 BK189))
      refine bodyPost_ret (results_ct rfl _ _ gb189 31 #[.int .i64 t193, .int .i64 x9_3] (0, 0) _ rfl (by refine sqPut (cs := #[.int .i64 t193, .int .i64 x190001_3]) ?_ 1; refine sqPut (cs := #[.int .i64 x190000_3, .int .i64 x190001_3]) ?_ 0; exact sqK BK189) Tryz.underlying31 rfl (by kernel_rfl)) rfl ?_
      exact ⟨Z6, sqB2 HB GE189 GE198⟩
     rw [if_neg c16] at H
     have c16b0 : (t201.toList == a0.toList) = false := beq_eq_false_iff_ne.mpr c16
     have c16b1 : (t201.toList != a0.toList) = true := bne_iff_ne.mpr c16
     obtain ⟨rfl, rfl, rfl⟩ := sqO3 H
     go_wp2_with (first | ((with_reducible refine gate_dst (N := 12) rfl ?_); refine sqBx w (sqB1 HB GE189) (N := 12) (cs := #[.int .i64 0, .int .i64 0]) (t := 31) ?_; intro gb198 hg w25 BK198 GE198 HB hb; obtain ⟨NB189_198, NB198_189⟩ := sqM hg BK189; replace BK189 := sqT BK189 hb; clear hb hg; have hnb26 := NB198_189.out; have hnc26 := NB189_198.out; obtain ⟨hcz27_0, hcz27_1, hfz27_0, hfz27_1⟩ := sqY2 BK198) | (go_at_call 70; (with_reducible refine (impl_isFraction.calls kj3 t193 x9_3 true _ A13.out).mono ?_); rintro e w28 ⟨rfl, hb⟩; replace BK189 := sqH NB189_198 BK189 hb; replace BK198 := Aside0.mk (blk_below (g := gb198) (o := .cells #[.int .i64 t193, .int .i64 x9_3] 31 (0, 0)) (Z77 BK198) hb); replace HB := sqS (sqB2 HB GE189 GE198) hb; (try clear hb); obtain ⟨hcz29_0, hcz29_1, hfz29_0, hfz29_1⟩ := sqY2 BK198) | (go_at_call 141; (with_reducible refine (impl_fractionText.calls t193 x9_3 t201 _ ?sideG A15.out).mono ?_); (case sideG => exact Z11 GE189 GE198); rintro e w30 ⟨rfl, hb⟩; replace BK189 := sqT BK189 hb; replace BK198 := sqT BK198 hb; replace HB := sqS (sqB2 HB GE189 GE198) hb; (try clear hb); obtain ⟨hcz31_0, hcz31_1, hfz31_0, hfz31_1⟩ := sqY2 BK189))
     refine bodyPost_ret (results_ct rfl _ _ gb189 31 #[.int .i64 0, .int .i64 0] (0, 0) _ rfl (Z78 BK189) Tryz.underlying31 rfl (by kernel_rfl)) rfl ?_
     exact ⟨Z6, sqB2 HB GE189 GE198⟩
    replace c14 := Bool.eq_false_iff.mpr c14
    subst c14
    rw [if_neg sqF] at H
    obtain ⟨rfl, rfl, rfl⟩ := sqO3 H
    go_wp2_with (first | ((with_reducible refine gate_dst (N := 12) rfl ?_); refine sqBx w (sqB1 HB GE189) (N := 12) (cs := #[.int .i64 0, .int .i64 0]) (t := 31) ?_; intro gb198 hg w32 BK198 GE198 HB hb; obtain ⟨NB189_198, NB198_189⟩ := sqM hg BK189; replace BK189 := sqT BK189 hb; clear hb hg; have hnb33 := NB198_189.out; have hnc33 := NB189_198.out; obtain ⟨hcz34_0, hcz34_1, hfz34_0, hfz34_1⟩ := sqY2 BK198) | (go_at_call 70; (with_reducible refine (impl_isFraction.calls kj3 t193 x9_3 false _ A13.out).mono ?_); rintro e w35 ⟨rfl, hb⟩; replace BK189 := sqH NB189_198 BK189 hb; replace BK198 := Aside0.mk (blk_below (g := gb198) (o := .cells #[.int .i64 t193, .int .i64 x9_3] 31 (0, 0)) (Z77 BK198) hb); replace HB := sqS (sqB2 HB GE189 GE198) hb; (try clear hb); obtain ⟨hcz36_0, hcz36_1, hfz36_0, hfz36_1⟩ := sqY2 BK189))
    refine bodyPost_ret (results_ct rfl _ _ gb189 31 #[.int .i64 0, .int .i64 0] (0, 0) _ rfl (Z78 BK189) Tryz.underlying31 rfl (by kernel_rfl)) rfl ?_
    exact ⟨Z6, sqB2 HB GE189 GE198⟩
   ·obtain ⟨qz_, rfl⟩ := isNone_some hq_t194
    have H1 : (some (0, 0, false)) = some (r1, r2, r3) := by rw [if_neg (show ¬ (some q199).isNone = true by simp)] at H; exact H
    clear H
    have H := H1
    clear H1
    try simp only [errP_none, errP_some]
    obtain ⟨rfl, rfl, rfl⟩ := sqO3 H
    go_wp2_with (first | ((with_reducible refine gate_dst (N := 12) rfl ?_); refine sqBx w (sqB1 HB GE189) (N := 12) (cs := #[.int .i64 0, .int .i64 0]) (t := 31) ?_; intro gb198 hg w37 BK198 GE198 HB hb; obtain ⟨NB189_198, NB198_189⟩ := sqM hg BK189; replace BK189 := sqT BK189 hb; clear hb hg; have hnb38 := NB198_189.out; have hnc38 := NB189_198.out; obtain ⟨hcz39_0, hcz39_1, hfz39_0, hfz39_1⟩ := sqY2 BK198; obtain ⟨hcz40_0, hcz40_1, hfz40_0, hfz40_1⟩ := sqY2 BK189))
    refine bodyPost_ret (results_ct rfl _ _ gb189 31 #[.int .i64 0, .int .i64 0] (0, 0) _ rfl (by refine sqPut (cs := #[.int .i64 0, .int .i64 x190001_3]) ?_ 1; refine sqPut (cs := #[.int .i64 x190000_3, .int .i64 x190001_3]) ?_ 0; refine sqFar ?_ NB189_198; refine sqFar ?_ NB189_198; exact sqK BK189) Tryz.underlying31 rfl (by kernel_rfl)) rfl ?_
    exact ⟨Z6, sqB2 HB GE189 GE198⟩

/-! ### impl_mirrored: function 138 -/
def impl_mirrored.f (a0_0 : Int) (a0_1 : Int) : Option (Int × Int) := if a0_1 > 0 then (some (wrap64 (-a0_0), a0_1)) else (some (a0_0, a0_1))
set_option maxHeartbeats 8000000 in
set_option maxRecDepth 100000 in
theorem impl_mirrored.calls (a0_0 : Int) (a0_1 : Int) (r1 : Int) (r2 : Int) (w : World) (h : impl_mirrored.f a0_0 a0_1 = some (r1, r2)) :
  Calls Tryz.prog 138 #[.agg #[.int .i64 a0_0, .int .i64 a0_1]] w fun e w' => e = .returned (.agg #[.int .i64 r1, .int .i64 r2]) ∧ Below w.heap.size w w' := by
 have hu31 := Tryz.underlying31
 have HB := Aside0.mk (Below.refl w.heap.size w)
 unfold impl_mirrored.f at h
 have H := h
 clear h
 by_cases c2 : a0_1 > 0
 ·rw [if_pos c2] at H
  have c2b0 : decide (0 < a0_1) = true := decide_eq_true c2
  clear c2
  obtain ⟨rfl, rfl⟩ := sqO2 H
  go_enter Tryz.func138, Tryz.ntmps138
  go_wp2_with (first | ((with_reducible refine gate_dst (N := 1) rfl ?_); refine sqBx w (sqB HB) (N := 1) (cs := #[.int .i64 a0_0, .int .i64 a0_1]) (t := 31) ?_; intro gb202 hg w3 BK202 GE202 HB hb; clear hb hg) | ((with_reducible refine gate_dst (N := 2) rfl ?_); refine sqBx w (sqB1 HB GE202) (N := 2) (cs := #[.int .i64 0, .int .i64 0]) (t := 31) ?_; intro gb203 hg w4 BK203 GE203 HB hb; obtain ⟨NB202_203, NB203_202⟩ := sqM hg BK202; replace BK202 := sqT BK202 hb; clear hb hg; have hnb5 := NB202_203.out; have hnc5 := NB203_202.out; obtain ⟨hcz6_0, hcz6_1, hfz6_0, hfz6_1⟩ := sqY2 BK202; obtain ⟨hcz7_0, hcz7_1, hfz7_0, hfz7_1⟩ := sqY2 BK203))
  refine bodyPost_ret (results_cell_row rfl _ _ gb203 31 #[.int .i64 (wrap64 (-a0_0)), .int .i64 a0_1] (0, 0) _ rfl (by refine sqPut (cs := #[.int .i64 (wrap64 (-a0_0)), .int .i64 0]) ?_ 1; refine sqPut (cs := #[.int .i64 0, .int .i64 0]) ?_ 0; refine sqFar ?_ NB203_202; exact sqK BK203) Tryz.underlying31 rfl (by kernel_rfl)) rfl ?_
  exact ⟨Z6, sqB2 HB GE202 GE203⟩
 rw [if_neg c2] at H
 have c2b0 : decide (0 < a0_1) = false := decide_eq_false c2
 clear c2
 obtain ⟨rfl, rfl⟩ := sqO2 H
 go_enter Tryz.func138, Tryz.ntmps138
 go_wp2_with (first | ((with_reducible refine gate_dst (N := 1) rfl ?_); refine sqBx w (sqB HB) (N := 1) (cs := #[.int .i64 a0_0, .int .i64 a0_1]) (t := 31) ?_; intro gb202 hg w8 BK202 GE202 HB hb; clear hb hg) | ((with_reducible refine gate_dst (N := 2) rfl ?_); refine sqBx w (sqB1 HB GE202) (N := 2) (cs := #[.int .i64 0, .int .i64 0]) (t := 31) ?_; intro gb203 hg w9 BK203 GE203 HB hb; obtain ⟨NB202_203, NB203_202⟩ := sqM hg BK202; replace BK202 := sqT BK202 hb; clear hb hg; have hnb10 := NB202_203.out; have hnc10 := NB203_202.out; obtain ⟨hcz11_0, hcz11_1, hfz11_0, hfz11_1⟩ := sqY2 BK202; obtain ⟨hcz12_0, hcz12_1, hfz12_0, hfz12_1⟩ := sqY2 BK203))
 refine bodyPost_ret (results_cell_row rfl _ _ gb203 31 #[.int .i64 a0_0, .int .i64 a0_1] (0, 0) _ rfl (Z5 BK203) Tryz.underlying31 rfl (by kernel_rfl)) rfl ?_
 exact ⟨Z6, sqB2 HB GE202 GE203⟩

/-! ### impl_nextFraction: function 111 -/
def impl_nextFraction.j0 : Nat → Bool → Int → Int → Int → ByteArray → Option (Int × Int × Bool)
 | 0, _, _, _, _, _ => none
 | k + 1, x25, x205000, x205001, x206000, x206001 => if x25 = true then ((impl_mirrored.f x205000 x205001).bind fun bt213 => (some (bt213.1, bt213.2, true))) else (if x206000 = 3 then (if x206001.toList = ([] : List UInt8) then ((impl_isSmall.f k x205000 x205001 12).bind fun t215 => (some (0, 1, t215))) else (some (0, 0, false))) else (some (0, 0, false)))
def impl_nextFraction.f (k : Nat) (a0_0 : Int) (a0_1 : Int) (a1_0 : Int) (a1_1 : ByteArray) : Option (Int × Int × Bool) := if a1_0 = 0 then ((impl_DancedFrom.f k a0_0 a0_1 a1_1).bind fun bt207 => (some (bt207.1, bt207.2.1, bt207.2.2))) else (if a1_0 = 1 then ((impl_ReadFraction.f k a1_1).bind fun bt210 => (some (bt210.1, bt210.2.1, bt210.2.2))) else (if a1_0 = 2 then (impl_nextFraction.j0 k (a1_1.toList == ([] : List UInt8)) a0_0 a0_1 a1_0 a1_1) else (impl_nextFraction.j0 k false a0_0 a0_1 a1_0 a1_1)))
abbrev impl_nextFraction.M (k : Nat) : Prop := (∀ y0 y1 y2 y3 y4, LeO (impl_nextFraction.j0 k y0 y1 y2 y3 y4) (impl_nextFraction.j0 (k + 1) y0 y1 y2 y3 y4))
theorem impl_nextFraction.mono_t : ∀ k, impl_nextFraction.M k → impl_nextFraction.M (k + 1) ∧ ∀ a0 a1 a2 a3, LeO (impl_nextFraction.f k a0 a1 a2 a3) (impl_nextFraction.f (k + 1) a0 a1 a2 a3) := by
  rintro k ih0
  refine ⟨?_, ?_⟩ <;> (try unfold impl_nextFraction.M) <;> intros <;> (first | unfold impl_nextFraction.j0 | unfold impl_nextFraction.f) <;> repeat' (with_reducible first | exact ih0 _ _ _ _ _ | exact impl_DancedFrom.mono _ _ _ _ | exact impl_ReadFraction.mono _ _ | exact impl_isSmall.mono _ _ _ _ | exact LeO.refl _ | exact LeO.none _ | refine LeO.ite ?_ ?_ | refine LeO.bind ?_ fun _ => ?_)
theorem impl_nextFraction.mono_l : ∀ k, impl_nextFraction.M k
 | 0 => fun _ _ _ _ _ r h => by simp [impl_nextFraction.j0] at h
 | k + 1 => (impl_nextFraction.mono_t k (impl_nextFraction.mono_l k)).1
theorem impl_nextFraction.mono a0 a1 a2 a3 k : LeO (impl_nextFraction.f k a0 a1 a2 a3) (impl_nextFraction.f (k + 1) a0 a1 a2 a3) := (impl_nextFraction.mono_t k (impl_nextFraction.mono_l k)).2 a0 a1 a2 a3
set_option maxHeartbeats 8000000 in
set_option maxRecDepth 100000 in
theorem impl_nextFraction.calls (k : Nat) (a0_0 : Int) (a0_1 : Int) (a1_0 : Int) (a1_1 : ByteArray) (r1 : Int) (r2 : Int) (r3 : Bool) (w : World) (hG : Glob w) (h : impl_nextFraction.f k a0_0 a0_1 a1_0 a1_1 = some (r1, r2, r3)) :
  Calls Tryz.prog 111 #[.agg #[.int .i64 a0_0, .int .i64 a0_1], .agg #[.int .i64 a1_0, .string a1_1]] w fun e w' => e = .returned (.tuple #[.agg #[.int .i64 r1, .int .i64 r2], .bool r3]) ∧ Below w.heap.size w w' := by
 have hu31 := Tryz.underlying31
 have hu38 := Tryz.underlying38
 have HB := Aside0.mk (Below.refl w.heap.size w)
 unfold impl_nextFraction.f at h
 have H := h
 clear h
 by_cases c3 : a1_0 = 0
 ·rw [if_pos c3] at H
  have c3b0 : (a1_0 == 0) = true := beq_iff_eq.mpr c3
  have c3b1 : (a1_0 != 0) = false := bne_eq_false_iff_eq.mpr c3
  clear c3
  obtain ⟨⟨t207, t208, t209⟩, A4, H⟩ := sqD H
  try dsimp only at H
  obtain ⟨rfl, rfl, rfl⟩ := sqO3 H
  go_enter Tryz.func111, Tryz.ntmps111
  go_wp2_with (first | ((with_reducible refine gate_dst (N := 2) rfl ?_); refine sqBx w (sqB HB) (N := 2) (cs := #[.int .i64 a0_0, .int .i64 a0_1]) (t := 31) ?_; intro gb204 hg w5 BK204 GE204 HB hb; clear hb hg) | ((with_reducible refine gate_dst (N := 3) rfl ?_); refine sqBx w (sqB1 HB GE204) (N := 3) (cs := #[.int .i64 a1_0, .string a1_1]) (t := 38) ?_; intro gb205 hg w6 BK205 GE205 HB hb; obtain ⟨NB204_205, NB205_204⟩ := sqM hg BK204; replace BK204 := sqT BK204 hb; clear hb hg) | ((with_reducible refine gate_dst (N := 4) rfl ?_); refine sqBx w (sqB2 HB GE204 GE205) (N := 4) (cs := #[.int .i64 0, .int .i64 0]) (t := 31) ?_; intro gb206 hg w7 BK206 GE206 HB hb; obtain ⟨NB204_206, NB206_204⟩ := sqM hg BK204; replace BK204 := sqT BK204 hb; obtain ⟨NB205_206, NB206_205⟩ := sqM hg BK205; replace BK205 := sqT BK205 hb; clear hb hg; have hnb8 := NB205_204.out; have hnc8 := NB204_205.out; have hnb9 := NB205_206.out; have hnc9 := NB206_205.out; obtain ⟨hcz10_0, hcz10_1, hfz10_0, hfz10_1⟩ := sqY2 BK205; have hnb11 := NB204_206.out; have hnc11 := NB206_204.out; obtain ⟨hcz12_0, hcz12_1, hfz12_0, hfz12_1⟩ := sqY2 BK204) | ((with_reducible refine gate_callee (f := 25) rfl ?_); refine sqC (some 13) Tryz.func25 #[.agg #[.int .i64 a0_0, .int .i64 a0_1], .string a1_1] ?_; (with_reducible refine (impl_DancedFrom.calls k a0_0 a0_1 a1_1 t207 t208 t209 _ A4.out).mono ?_); rintro e w13 ⟨rfl, hb⟩; refine ⟨_, rfl, ?_⟩; replace BK204 := sqT BK204 hb; replace BK205 := sqT BK205 hb; replace BK206 := sqT BK206 hb; replace HB := sqS (sqB3 HB GE204 GE205 GE206) hb; (try clear hb); obtain ⟨hcz14_0, hcz14_1, hfz14_0, hfz14_1⟩ := sqY2 BK206))
  refine bodyPost_ret (results_ct rfl _ _ gb206 31 #[.int .i64 t207, .int .i64 t208] (0, 0) _ rfl (by refine sqPut (cs := #[.int .i64 t207, .int .i64 0]) ?_ 1; refine sqPut (cs := #[.int .i64 0, .int .i64 0]) ?_ 0; exact sqK BK206) Tryz.underlying31 rfl (by kernel_rfl)) rfl ?_
  exact ⟨Z6, sqB3 HB GE204 GE205 GE206⟩
 rw [if_neg c3] at H
 have c3b0 : (a1_0 == 0) = false := beq_eq_false_iff_ne.mpr c3
 have c3b1 : (a1_0 != 0) = true := bne_iff_ne.mpr c3
 by_cases c15 : a1_0 = 1
 ·rw [if_pos c15] at H
  have c15b0 : (a1_0 == 1) = true := beq_iff_eq.mpr c15
  have c15b1 : (a1_0 != 1) = false := bne_eq_false_iff_eq.mpr c15
  clear c15
  obtain ⟨⟨t210, t211, t212⟩, A16, H⟩ := sqD H
  try dsimp only at H
  obtain ⟨rfl, rfl, rfl⟩ := sqO3 H
  go_enter Tryz.func111, Tryz.ntmps111
  go_wp2_with (first | ((with_reducible refine gate_dst (N := 2) rfl ?_); refine sqBx w (sqB HB) (N := 2) (cs := #[.int .i64 a0_0, .int .i64 a0_1]) (t := 31) ?_; intro gb204 hg w17 BK204 GE204 HB hb; clear hb hg) | ((with_reducible refine gate_dst (N := 3) rfl ?_); refine sqBx w (sqB1 HB GE204) (N := 3) (cs := #[.int .i64 a1_0, .string a1_1]) (t := 38) ?_; intro gb205 hg w18 BK205 GE205 HB hb; obtain ⟨NB204_205, NB205_204⟩ := sqM hg BK204; replace BK204 := sqT BK204 hb; clear hb hg) | ((with_reducible refine gate_dst (N := 4) rfl ?_); refine sqBx w (sqB2 HB GE204 GE205) (N := 4) (cs := #[.int .i64 0, .int .i64 0]) (t := 31) ?_; intro gb206 hg w19 BK206 GE206 HB hb; obtain ⟨NB204_206, NB206_204⟩ := sqM hg BK204; replace BK204 := sqT BK204 hb; obtain ⟨NB205_206, NB206_205⟩ := sqM hg BK205; replace BK205 := sqT BK205 hb; clear hb hg; have hnb20 := NB205_204.out; have hnc20 := NB204_205.out; have hnb21 := NB205_206.out; have hnc21 := NB206_205.out; obtain ⟨hcz22_0, hcz22_1, hfz22_0, hfz22_1⟩ := sqY2 BK205) | ((with_reducible refine gate_callee (f := 126) rfl ?_); refine sqC (some 22) Tryz.func126 #[.string a1_1] ?_; (with_reducible refine (impl_ReadFraction.calls k a1_1 t210 t211 t212 _ ?sideG A16.out).mono ?_); (case sideG => exact Glob.below hG (sqB3 HB GE204 GE205 GE206)); rintro e w23 ⟨rfl, hb⟩; refine ⟨_, rfl, ?_⟩; replace BK204 := sqT BK204 hb; replace BK205 := sqT BK205 hb; replace BK206 := sqT BK206 hb; replace HB := sqS (sqB3 HB GE204 GE205 GE206) hb; (try clear hb); have hnb24 := NB206_204.out; have hnc24 := NB204_206.out; obtain ⟨hcz25_0, hcz25_1, hfz25_0, hfz25_1⟩ := sqY2 BK206))
  refine bodyPost_ret (results_ct rfl _ _ gb206 31 #[.int .i64 t210, .int .i64 t211] (0, 0) _ rfl (by refine sqPut (cs := #[.int .i64 t210, .int .i64 0]) ?_ 1; refine sqPut (cs := #[.int .i64 0, .int .i64 0]) ?_ 0; exact sqK BK206) Tryz.underlying31 rfl (by kernel_rfl)) rfl ?_
  exact ⟨Z6, sqB3 HB GE204 GE205 GE206⟩
 rw [if_neg c15] at H
 have c15b0 : (a1_0 == 1) = false := beq_eq_false_iff_ne.mpr c15
 have c15b1 : (a1_0 != 1) = true := bne_iff_ne.mpr c15
 have HC26 := Aside0.mk H
 clear H
 go_enter Tryz.func111, Tryz.ntmps111
 go_upto_region 5 with (first | ((with_reducible refine gate_dst (N := 2) rfl ?_); refine sqBx w (sqB HB) (N := 2) (cs := #[.int .i64 a0_0, .int .i64 a0_1]) (t := 31) ?_; intro gb204 hg w27 BK204 GE204 HB hb; clear hb hg) | ((with_reducible refine gate_dst (N := 3) rfl ?_); refine sqBx w (sqB1 HB GE204) (N := 3) (cs := #[.int .i64 a1_0, .string a1_1]) (t := 38) ?_; intro gb205 hg w28 BK205 GE205 HB hb; obtain ⟨NB204_205, NB205_204⟩ := sqM hg BK204; replace BK204 := sqT BK204 hb; clear hb hg) | ((with_reducible refine gate_dst (N := 4) rfl ?_); refine sqBx w (sqB2 HB GE204 GE205) (N := 4) (cs := #[.int .i64 0, .int .i64 0]) (t := 31) ?_; intro gb206 hg w29 BK206 GE206 HB hb; obtain ⟨NB204_206, NB206_204⟩ := sqM hg BK204; replace BK204 := sqT BK204 hb; obtain ⟨NB205_206, NB206_205⟩ := sqM hg BK205; replace BK205 := sqT BK205 hb; clear hb hg; have hnb30 := NB205_204.out; have hnc30 := NB204_205.out; have hnb31 := NB205_206.out; have hnc31 := NB206_205.out; obtain ⟨hcz32_0, hcz32_1, hfz32_0, hfz32_1⟩ := sqY2 BK205))
 (try simp only [Act.put, List.setIfInBounds_toArray, List.set_cons_zero, List.set_cons_succ])
 go_cut [25] (fun v25 wc => ∃ (kq : Nat) (x25_25 : Bool), v25 = .bool x25_25 ∧ Aside0 (impl_nextFraction.j0 kq x25_25 a0_0 a0_1 a1_0 a1_1 = some (r1, r2, r3)) ∧ Aside0 (kq ≤ k) ∧ Aside0 (wc.heap[gb204]? = some (.cells #[.int .i64 a0_0, .int .i64 a0_1] 31 (0, 0))) ∧ Aside0 (wc.heap[gb205]? = some (.cells #[.int .i64 a1_0, .string a1_1] 38 (0, 0))) ∧ Aside0 (wc.heap[gb206]? = some (.cells #[.int .i64 0, .int .i64 0] 31 (0, 0))) ∧ Aside0 (Below w.heap.size w wc))
 case first =>
  have H := HC26.out
  clear HC26
  by_cases c33 : a1_0 = 2
  ·rw [if_pos c33] at H
   have c33b0 : (a1_0 == 2) = true := beq_iff_eq.mpr c33
   have c33b1 : (a1_0 != 2) = false := bne_eq_false_iff_eq.mpr c33
   clear c33
   (first | rw [c33b0] | (simp only [i64_w, i32_w]; rw [c33b0]) | skip)
   have H' := Aside0.mk H
   clear H
   have hnb34 := NB205_204.out
   have hnc34 := NB204_205.out
   have hnb35 := NB205_206.out
   have hnc35 := NB206_205.out
   obtain ⟨hcz36_0, hcz36_1, hfz36_0, hfz36_1⟩ := sqY2 BK205
   go_wp2
   go_meet
   case rel => exact ⟨_, ((a1_1.toList == ([] : List UInt8))), Z2, H', ⟨Z12⟩, ⟨sqK BK204⟩, ⟨sqK BK205⟩, ⟨sqK BK206⟩, ⟨sqB3 HB GE204 GE205 GE206⟩⟩
  rw [if_neg c33] at H
  have c33b0 : (a1_0 == 2) = false := beq_eq_false_iff_ne.mpr c33
  have c33b1 : (a1_0 != 2) = true := bne_iff_ne.mpr c33
  (first | rw [c33b0] | (simp only [i64_w, i32_w]; rw [c33b0]) | skip)
  have H' := Aside0.mk H
  clear H
  have hnb37 := NB205_204.out
  have hnc37 := NB204_205.out
  have hnb38 := NB205_206.out
  have hnc38 := NB206_205.out
  obtain ⟨hcz39_0, hcz39_1, hfz39_0, hfz39_1⟩ := sqY2 BK205
  go_wp2
  go_meet
  case rel => exact ⟨_, (false), Z2, H', ⟨Z12⟩, ⟨sqK BK204⟩, ⟨sqK BK205⟩, ⟨sqK BK206⟩, ⟨sqB3 HB GE204 GE205 GE206⟩⟩
 case rest =>
  clear HC26
  try clear c3; try clear c3b0; try clear c3b1; try clear c15; try clear c15b0; try clear c15b1; try clear hcz32_0; try clear hcz32_1; try clear hfz32_0; try clear hfz32_1
  obtain ⟨kq, x25_25, rfl, HA, HJ25, BK204, BK205, BK206, HB⟩ := hcut
  cases kq with
  | zero => exact absurd HA.out (by simp [impl_nextFraction.j0])
  | succ kj25 =>
   have H := HA.out
   clear HA
   simp only [impl_nextFraction.j0] at H
   by_cases c40 : x25_25 = true
   ·subst c40
    rw [if_pos rfl] at H
    obtain ⟨⟨t213, t214⟩, A41, H⟩ := sqD H
    try dsimp only at H
    obtain ⟨rfl, rfl, rfl⟩ := sqO3 H
    have hnb42 := NB204_205.out
    have hnc42 := NB205_204.out
    have hnb43 := NB204_206.out
    have hnc43 := NB206_204.out
    obtain ⟨hcz44_0, hcz44_1, hfz44_0, hfz44_1⟩ := sqY2 BK204
    go_wp2_with (first | ((with_reducible refine gate_callee (f := 138) rfl ?_); refine sqC (some 35) Tryz.func138 #[.agg #[.int .i64 a0_0, .int .i64 a0_1]] ?_; (with_reducible refine (impl_mirrored.calls a0_0 a0_1 t213 t214 _ A41.out).mono ?_); rintro e w45 ⟨rfl, hb⟩; refine ⟨_, rfl, ?_⟩; replace BK204 := sqT BK204 hb; replace BK205 := sqT BK205 hb; replace BK206 := sqT BK206 hb; replace HB := sqS (sqB3 HB GE204 GE205 GE206) hb; (try clear hb); have hnb46 := NB206_205.out; have hnc46 := NB205_206.out; obtain ⟨hcz47_0, hcz47_1, hfz47_0, hfz47_1⟩ := sqY2 BK206))
    refine bodyPost_ret (results_ct rfl _ _ gb206 31 #[.int .i64 t213, .int .i64 t214] (0, 0) _ rfl (by refine sqPut (cs := #[.int .i64 t213, .int .i64 0]) ?_ 1; refine sqPut (cs := #[.int .i64 0, .int .i64 0]) ?_ 0; exact sqK BK206) Tryz.underlying31 rfl (by kernel_rfl)) rfl ?_
    exact ⟨Z6, sqB3 HB GE204 GE205 GE206⟩
   replace c40 := Bool.eq_false_iff.mpr c40
   subst c40
   rw [if_neg sqF] at H
   by_cases c48 : a1_0 = 3
   ·rw [if_pos c48] at H
    have c48b0 : (a1_0 == 3) = true := beq_iff_eq.mpr c48
    have c48b1 : (a1_0 != 3) = false := bne_eq_false_iff_eq.mpr c48
    clear c48
    by_cases c49 : a1_1.toList = ([] : List UInt8)
    ·rw [if_pos c49] at H
     have c49b0 : (a1_1.toList == ([] : List UInt8)) = true := beq_iff_eq.mpr c49
     try have c49b8 : a1_1.toList.isEmpty = true := by (have h_ := c49b0; (repeat rw [show ∀ z : List UInt8, (z == ([] : List UInt8)) = z.isEmpty from fun z => by cases z <;> rfl] at h_); exact h_)
     have c49b1 : (a1_1.toList != ([] : List UInt8)) = false := bne_eq_false_iff_eq.mpr c49
     clear c49
     obtain ⟨t215, A50, H⟩ := sqD H
     obtain ⟨rfl, rfl, rfl⟩ := sqO3 H
     have hnb51 := NB205_204.out
     have hnc51 := NB204_205.out
     have hnb52 := NB205_206.out
     have hnc52 := NB206_205.out
     obtain ⟨hcz53_0, hcz53_1, hfz53_0, hfz53_1⟩ := sqY2 BK205
     have hnb54 := NB204_206.out
     have hnc54 := NB206_204.out
     obtain ⟨hcz55_0, hcz55_1, hfz55_0, hfz55_1⟩ := sqY2 BK204
     go_wp2_with (first | ((with_reducible refine gate_callee (f := 104) rfl ?_); refine sqC (some 47) Tryz.func104 #[.agg #[.int .i64 a0_0, .int .i64 a0_1], .int .i64 12] ?_; (with_reducible refine (impl_isSmall.calls kj25 a0_0 a0_1 12 t215 _ A50.out).mono ?_); rintro e w56 ⟨rfl, hb⟩; refine ⟨_, rfl, ?_⟩; replace BK204 := sqT BK204 hb; replace BK205 := sqT BK205 hb; replace BK206 := sqT BK206 hb; replace HB := sqS (sqB3 HB GE204 GE205 GE206) hb; (try clear hb); obtain ⟨hcz57_0, hcz57_1, hfz57_0, hfz57_1⟩ := sqY2 BK206))
     refine bodyPost_ret (results_ct rfl _ _ gb206 31 #[.int .i64 0, .int .i64 1] (0, 0) _ rfl (Z27 BK206) Tryz.underlying31 rfl (by kernel_rfl)) rfl ?_
     exact ⟨Z6, sqB3 HB GE204 GE205 GE206⟩
    rw [if_neg c49] at H
    have c49b0 : (a1_1.toList == ([] : List UInt8)) = false := beq_eq_false_iff_ne.mpr c49
    try have c49b8 : a1_1.toList.isEmpty = false := by (have h_ := c49b0; (repeat rw [show ∀ z : List UInt8, (z == ([] : List UInt8)) = z.isEmpty from fun z => by cases z <;> rfl] at h_); exact h_)
    have c49b1 : (a1_1.toList != ([] : List UInt8)) = true := bne_iff_ne.mpr c49
    obtain ⟨rfl, rfl, rfl⟩ := sqO3 H
    have hnb58 := NB205_204.out
    have hnc58 := NB204_205.out
    have hnb59 := NB205_206.out
    have hnc59 := NB206_205.out
    obtain ⟨hcz60_0, hcz60_1, hfz60_0, hfz60_1⟩ := sqY2 BK205
    have hnb61 := NB206_204.out
    have hnc61 := NB204_206.out
    obtain ⟨hcz62_0, hcz62_1, hfz62_0, hfz62_1⟩ := sqY2 BK206
    go_wp2
    refine bodyPost_ret (results_ct rfl _ _ gb206 31 #[.int .i64 0, .int .i64 0] (0, 0) _ rfl (Z27 BK206) Tryz.underlying31 rfl (by kernel_rfl)) rfl ?_
    exact ⟨Z6, sqB3 HB GE204 GE205 GE206⟩
   rw [if_neg c48] at H
   have c48b0 : (a1_0 == 3) = false := beq_eq_false_iff_ne.mpr c48
   have c48b1 : (a1_0 != 3) = true := bne_iff_ne.mpr c48
   obtain ⟨rfl, rfl, rfl⟩ := sqO3 H
   have hnb63 := NB205_204.out
   have hnc63 := NB204_205.out
   have hnb64 := NB205_206.out
   have hnc64 := NB206_205.out
   obtain ⟨hcz65_0, hcz65_1, hfz65_0, hfz65_1⟩ := sqY2 BK205
   have hnb66 := NB206_204.out
   have hnc66 := NB204_206.out
   obtain ⟨hcz67_0, hcz67_1, hfz67_0, hfz67_1⟩ := sqY2 BK206
   go_wp2
   refine bodyPost_ret (results_ct rfl _ _ gb206 31 #[.int .i64 0, .int .i64 0] (0, 0) _ rfl (Z27 BK206) Tryz.underlying31 rfl (by kernel_rfl)) rfl ?_
   exact ⟨Z6, sqB3 HB GE204 GE205 GE206⟩

end Go.Proofs.YtofmlbgfcohhoaaGreatDoor.PFnExactDeskLine
