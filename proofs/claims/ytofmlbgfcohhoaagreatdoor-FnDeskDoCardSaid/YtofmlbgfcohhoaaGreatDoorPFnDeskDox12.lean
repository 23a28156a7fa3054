/- Lean functions of the Go functions that the law FnDeskDo reaches, each with its contract: made by a program of this session. -/
import Derived.Test.YtofmlbgfcohhoaaGreatDoorPFnDeskDox11
namespace Go.Proofs.YtofmlbgfcohhoaaGreatDoor.PFnDeskDo
open Go.RowKit Go.Proofs.YtofmlbgfcohhoaaGreatDoorW.PrintWords Go.Proofs.YtofmlbgfcohhoaaGreatDoorW.PrintLast Go.Proofs.YtofmlbgfcohhoaaGreatDoorW.PrintMore Go.Proofs.YtofmlbgfcohhoaaGreatDoor.Lib
attribute [local go_sem] max2_int min2_int max_two min_two max_three min_three max_four min_four   -- for this text's walks alone
set_option linter.unusedVariables false
set_option linter.unusedSimpArgs false

/-! ### impl_fractionText: function 141 -/
def impl_fractionText.f (a0_0 : Int) (a0_1 : Int) : Option (ByteArray) := if a0_1 = 1 then ((strconv_Itoa.f a0_0).bind fun t294 => (some t294)) else ((strconv_Itoa.f a0_0).bind fun t295 => (if t295.size + 1 ≤ 9223372036854775807 then ((strconv_Itoa.f a0_1).bind fun t296 => (if (t295 ++ (⟨#[47]⟩ : ByteArray)).size + t296.size ≤ 9223372036854775807 then (some ((t295 ++ (⟨#[47]⟩ : ByteArray)) ++ t296)) else (none))) else (none)))
def impl_fractionText.T3 : Bool × List (List Nat × List Nat) := (true, [([], []), ([0], [0]), ([1], [1]), ([2], [2]), ([], []), ([4], [4]), ([5, 2], [5]), ([3, 6], [3, 6]), ([7, 6, 0, 1, 2, 3, 4, 5, 6, 7], [7])])
def impl_fractionText.B3 : List Nat := [0, 1, 3, 7, 0, 16, 55, 127, 255]
theorem impl_fractionText.tab3 : rtab .any (opsOf Tryz.f141 3) = impl_fractionText.T3 := by kernel_rfl
theorem impl_fractionText.bits3 : waitsOk impl_fractionText.T3.2 impl_fractionText.B3 = true := by kernel_rfl
set_option maxHeartbeats 8000000 in
set_option maxRecDepth 100000 in
theorem impl_fractionText.calls (a0_0 : Int) (a0_1 : Int) (r : ByteArray) (w : World) (hG : Glob w) (h : impl_fractionText.f a0_0 a0_1 = some r) :
  Calls Tryz.prog 141 #[.agg #[.int .i64 a0_0, .int .i64 a0_1]] w fun e w' => e = .returned (.string r) ∧ Below w.heap.size w w' := by
 have hu31 := Tryz.underlying31
 have HB := Aside0.mk (Below.refl w.heap.size w)
 have H : (if a0_1 = 1 then ((strconv_Itoa.f a0_0).bind fun t294 => (some t294)) else ((strconv_Itoa.f a0_0).bind fun t295 => (if t295.size + 1 ≤ 9223372036854775807 then ((strconv_Itoa.f a0_1).bind fun t296 => (if (t295 ++ (⟨#[47]⟩ : ByteArray)).size + t296.size ≤ 9223372036854775807 then (some ((t295 ++ (⟨#[47]⟩ : ByteArray)) ++ t296)) else (none))) else (none)))) = some r := h
 clear h
 by_cases c2 : a0_1 = 1
 ·rw [if_pos c2] at H
  have c2b0 : (a0_1 == 1) = true := beq_iff_eq.mpr c2
  have c2b1 : (a0_1 != 1) = false := bne_eq_false_iff_eq.mpr c2
  clear c2
  obtain ⟨t294, A3, H⟩ := sqD H
  obtain rfl := Option.some.inj H
  go_enter Tryz.func141, Tryz.ntmps141
  go_wp2_with (first | ((with_reducible refine gate_dst (N := 1) rfl ?_); refine sqBox (N := 1) (cs := #[.int .i64 a0_0, .int .i64 a0_1]) (t := 31) ?_; intro gb293 hg w4 BK293 hb; have GW293 := Aside0.mk ((sqG hg (sqB HB))); have GE293 := GW293; replace HB := sqS (sqB HB) hb; clear hb hg; obtain ⟨hcz5_0, hcz5_1, hfz5_0, hfz5_1⟩ := sqY2 BK293) | ((with_reducible refine gate_callee (f := 144) rfl ?_); refine goesL_ (some 8) rfl rfl Tryz.func144 (by kernel_rfl) rfl #[.int .i64 a0_0] rfl sqA ?_; (with_reducible refine (strconv_Itoa.calls a0_0 t294 _ ?sideG A3.out).mono ?_); (case sideG => exact Glob.below hG (sqB1 HB GE293)); rintro e w6 ⟨rfl, hb⟩; refine ⟨_, rfl, ?_⟩; replace BK293 := sqT BK293 hb; replace HB := sqS (sqB1 HB GE293) hb; (try clear hb)))
  go_ret
  exact ⟨Z3, sqB1 HB GE293⟩
 ·rw [if_neg c2] at H
  have c2b0 : (a0_1 == 1) = false := beq_eq_false_iff_ne.mpr c2
  have c2b1 : (a0_1 != 1) = true := bne_iff_ne.mpr c2
  obtain ⟨t295, A7, H⟩ := sqD H
  obtain ⟨c8, H⟩ := sqI H
  have c8b0 := eq_true c8
  have c8b1 : decide (t295.size + 1 ≤ 9223372036854775807) = true := decide_eq_true c8
  try have c8b2 : (9223372036854775807 < t295.size + 1) = False := eq_false (Nat.not_lt.2 c8)
  obtain ⟨t296, A9, H⟩ := sqD H
  obtain ⟨c10, H⟩ := sqI H
  have c10b0 := eq_true c10
  have c10b1 : decide ((t295 ++ (⟨#[47]⟩ : ByteArray)).size + t296.size ≤ 9223372036854775807) = true := decide_eq_true c10
  try have c10b2 : (9223372036854775807 < (t295 ++ (⟨#[47]⟩ : ByteArray)).size + t296.size) = False := eq_false (Nat.not_lt.2 c10)
  try have c10b7 : (9223372036854775807 < t295.size + 1 + t296.size) = False := by (have h_ := c10b2; (repeat rw [ByteArray.size_append] at h_); exact h_)
  obtain rfl := Option.some.inj H
  go_enter Tryz.func141, Tryz.ntmps141
  try go_wp2_with (first | ((with_reducible refine gate_dst (N := 1) rfl ?_); refine sqBox (N := 1) (cs := #[.int .i64 a0_0, .int .i64 a0_1]) (t := 31) ?_; intro gb293 hg w11 BK293 hb; have GW293 := Aside0.mk ((sqG hg (sqB HB))); have GE293 := GW293; replace HB := sqS (sqB HB) hb; clear hb hg; obtain ⟨hcz12_0, hcz12_1, hfz12_0, hfz12_1⟩ := sqY2 BK293))
  replace BK293 := Aside0.mk (blk_drew BK293.out)
  replace HB := Aside0.mk (below_drew1 HB.out)
  refine start_ (n := 9) (S := fun w' => w'.cell? ⟨gb293, 0, none⟩ = some (.int .i64 a0_0) ∧ w'.cell? ⟨gb293, 1, none⟩ = some (.int .i64 a0_1)) (ds := []) #[false, false, false, false, false, false, false, false, false] (by kernel_rfl) rfl rfl ⟨(blk_cell BK293.out 0).trans rfl, (blk_cell BK293.out 1).trans rfl⟩ (fun hHeld => ?_); refine with_tabW impl_fractionText.tab3 impl_fractionText.bits3 (fun HT_ HW_ => ?_)
  generalize w11.drew = w13 at BK293 HB hHeld ⊢
  refine sqP (i := 0) (N := some 9) (h := ?_)
  refine sqP (i := 4) (N := some 13) (h := ?_)
  refine sqQ (i := 1) (N := some 10) hHeld (h := ?_)
  refine sqQ (i := 5) (N := some 14) hHeld (h := ?_)
  refine one_ (i := 2) (N := some 11) #[true, true, true, false, true, true, false, false, false] rfl rfl (one_of HT_.out (by kernel_rfl)) (by decide) (fun K hK => ?_)
  refine goes_ Tryz.func144 (by kernel_rfl) rfl #[.int .i64 a0_0] (by rfl) rfl rfl sqA ?_
  with_reducible refine (strconv_Itoa.calls a0_0 t295 _ ?sideG A7.out).mono ?_
  (case sideG => exact Glob.below hG (sqB1 HB GE293))
  rintro e w14 ⟨rfl, hb⟩
  refine ⟨_, rfl, ?_⟩
  replace BK293 := sqT BK293 hb
  replace HB := sqS (sqB1 HB GE293) hb
  (try clear hb)
  (try clear hb2)
  (try clear hk)
  (try clear hi)
  refine hK.out _ _ ⟨(blk_cell BK293.out 0).trans rfl, (blk_cell BK293.out 1).trans rfl⟩ (fun hHeld => ?_)
  clear hK K
  refine sqN (some 11) ?_
  refine sqP (i := 3) (N := some 12) (h := ?_)
  refine one_ (i := 6) (N := some 15) #[true, true, true, true, true, true, true, false, false] rfl rfl (one_of HT_.out (by kernel_rfl)) (by decide) (fun K hK => ?_)
  refine goes_ Tryz.func144 (by kernel_rfl) rfl #[.int .i64 a0_1] (by rfl) rfl rfl sqA ?_
  with_reducible refine (strconv_Itoa.calls a0_1 t296 _ ?sideG A9.out).mono ?_
  (case sideG => exact Glob.below hG (sqB1 HB GE293))
  rintro e w15 ⟨rfl, hb⟩
  refine ⟨_, rfl, ?_⟩
  replace BK293 := sqT BK293 hb
  replace HB := sqS (sqB1 HB GE293) hb
  (try clear hb)
  (try clear hb2)
  (try clear hk)
  (try clear hi)
  refine hK.out _ _ ⟨(blk_cell BK293.out 0).trans rfl, (blk_cell BK293.out 1).trans rfl⟩ (fun hHeld => ?_)
  clear hK K
  refine sqN (some 15) ?_
  refine sqP (i := 7) (N := some 16) (h := ?_)
  refine sqP (i := 8) (N := some 2) (h := ?_)
  refine done_ (done_of HT_.out (by kernel_rfl)) ?_
  try go_wp2
  go_ret
  exact ⟨Z3, sqB1 HB GE293⟩

-- given: function 151 (strconv_Atoi)

/-! ### impl_ReadFraction: function 126 -/
def impl_ReadFraction.j0 : Nat → ByteArray → Int → Option Int → Int → Option (Int × Int × Bool)
 | 0, _, _, _, _ => none
 | k + 1, x0, x7, x8, x9 => if x8.isNone = true then ((impl_isFraction.f k x7 x9).bind fun t308 => (if t308 = true then ((impl_fractionText.f x7 x9).bind fun t309 => (if t309.toList = x0.toList then (some (x7, x9, true)) else (some (0, 0, false)))) else (some (0, 0, false)))) else (some (0, 0, false))
def impl_ReadFraction.f (k : Nat) (a0 : ByteArray) : Option (Int × Int × Bool) := (strings_Cut.f a0 (⟨#[47]⟩ : ByteArray)).bind fun bt298 => ((strconv_Atoi.f bt298.1).bind fun bt301 => (if bt298.2.2 = true then ((strconv_Atoi.f bt298.2.1).bind fun bt303 => (if bt303.2.isNone = true then (impl_ReadFraction.j0 k a0 bt301.1 bt301.2 bt303.1) else (some (0, 0, false)))) else (impl_ReadFraction.j0 k a0 bt301.1 bt301.2 1)))
theorem impl_ReadFraction.mono_l : ∀ k, (∀ y0 y1 y2 y3, LeO (impl_ReadFraction.j0 k y0 y1 y2 y3) (impl_ReadFraction.j0 (k + 1) y0 y1 y2 y3))
 | 0 => fun _ _ _ _ r h => by simp [impl_ReadFraction.j0] at h
 | k + 1 => by
  have ih0 := impl_ReadFraction.mono_l k
  ·intro y0 y1 y2 y3
   unfold impl_ReadFraction.j0
   repeat' first
   | (with_reducible exact ih0 _ _ _ _)
   | (with_reducible exact impl_isFraction.mono _ _ _)
   | (with_reducible exact LeO.refl _)
   | (with_reducible exact LeO.none _)
   | (with_reducible refine LeO.ite ?_ ?_)
   | (with_reducible refine LeO.bind ?_ (fun _ => ?_))
theorem impl_ReadFraction.mono : ∀ a0 k, LeO (impl_ReadFraction.f k a0) (impl_ReadFraction.f (k + 1) a0) := by
 intro a0 k
 have ih0 := impl_ReadFraction.mono_l k
 unfold impl_ReadFraction.f
 repeat' first
   | (with_reducible exact ih0 _ _ _ _)
   | (with_reducible exact impl_isFraction.mono _ _ _)
   | (with_reducible exact LeO.refl _)
   | (with_reducible exact LeO.none _)
   | (with_reducible refine LeO.ite ?_ ?_)
   | (with_reducible refine LeO.bind ?_ (fun _ => ?_))
set_option maxHeartbeats 8000000 in
set_option maxRecDepth 100000 in
theorem impl_ReadFraction.calls (k : Nat) (a0 : ByteArray) (r1 : Int) (r2 : Int) (r3 : Bool) (w : World) (hG : Glob w) (h : impl_ReadFraction.f k a0 = some (r1, r2, r3)) :
  Calls Tryz.prog 126 #[.string a0] w fun e w' => e = .returned (.tuple #[.agg #[.int .i64 r1, .int .i64 r2], .bool r3]) ∧ Below w.heap.size w w' := by
 have hu31 := Tryz.underlying31
 have hu150 := Tryz.underlying150
 have HB := Aside0.mk (Below.refl w.heap.size w)
 have H : ((strings_Cut.f a0 (⟨#[47]⟩ : ByteArray)).bind fun bt298 => ((strconv_Atoi.f bt298.1).bind fun bt301 => (if bt298.2.2 = true then ((strconv_Atoi.f bt298.2.1).bind fun bt303 => (if bt303.2.isNone = true then (impl_ReadFraction.j0 k a0 bt301.1 bt301.2 bt303.1) else (some (0, 0, false)))) else (impl_ReadFraction.j0 k a0 bt301.1 bt301.2 1)))) = some (r1, r2, r3) := h
 clear h
 obtain ⟨⟨t298, t299, t300⟩, A2, H⟩ := sqD H
 try dsimp only at H
 obtain ⟨⟨t301, t302⟩, A3, H⟩ := sqD H
 try dsimp only at H
 have HC4 := Aside0.mk H
 clear H
 go_enter Tryz.func126, Tryz.ntmps126
 go_upto_if 24 with (first | ((with_reducible refine gate_dst (N := 2) rfl ?_); refine sqBox (N := 2) (cs := #[.int .i64 0, .int .i64 0]) (t := 31) ?_; intro gb297 hg w5 BK297 hb; have GW297 := Aside0.mk ((sqG hg (sqB HB))); have GE297 := GW297; replace HB := sqS (sqB HB) hb; clear hb hg) | ((with_reducible refine gate_callee (f := 84) rfl ?_); refine goesL_ (some 15) rfl rfl Tryz.func84 (by kernel_rfl) rfl #[.string a0, .string (⟨#[47]⟩ : ByteArray)] rfl sqA ?_; (with_reducible refine (strings_Cut.calls a0 (⟨#[47]⟩ : ByteArray) t298 t299 t300 _ ?sideG A2.out).mono ?_); (case sideG => exact Glob.below hG (sqB1 HB GE297)); rintro e w6 ⟨rfl, hb⟩; refine ⟨_, rfl, ?_⟩; replace BK297 := sqT BK297 hb; replace HB := sqS (sqB1 HB GE297) hb; (try clear hb)) | ((with_reducible refine gate_callee (f := 151) rfl ?_); refine goesL_ (some 21) rfl rfl Tryz.func151 (by kernel_rfl) rfl #[.string t298] rfl sqA ?_; (with_reducible refine (strconv_Atoi.calls t298 t301 t302 _ ?sideG A3.out).mono ?_); (case sideG => exact Glob.below hG (sqB1 HB GE297)); rintro e w7 ⟨q_t302, hq_t302, rfl, hb⟩; refine ⟨_, rfl, ?_⟩; replace BK297 := sqT BK297 hb; replace HB := sqS (sqB1 HB GE297) hb; (try clear hb); (try simp only [errP_none, errP_some])))
 (try simp only [Act.put, List.setIfInBounds_toArray, List.set_cons_zero, List.set_cons_succ])
 go_cut [9] (fun v9 wc => ∃ (kq : Nat) (x9_3 : Int) (x298000_3 : Int) (x298001_3 : Int), v9 = .int .i64 x9_3 ∧ Aside0 (impl_ReadFraction.j0 kq a0 t301 t302 x9_3 = some (r1, r2, r3)) ∧ Aside0 (kq ≤ k) ∧ Aside0 (wc.heap[gb297]? = some (.cells #[.int .i64 x298000_3, .int .i64 x298001_3] 31 (0, 0))) ∧ Aside0 (Below w.heap.size w wc))
 case first =>
  have H := HC4.out
  clear HC4
  by_cases c8 : t300 = true
  ·subst c8
   rw [if_pos rfl] at H
   obtain ⟨⟨t303, t304⟩, A9, H⟩ := sqD H
   try dsimp only at H
   rcases t304 with _ | q305
   ·have H1 : (impl_ReadFraction.j0 k a0 t301 t302 t303) = some (r1, r2, r3) := by rw [if_pos (show (none : Option Int).isNone = true by rfl)] at H; exact H
    clear H
    have H := H1
    clear H1
    try simp only [errP_none, errP_some]
    have H' := Aside0.mk H
    clear H
    go_wp2_with (first | ((with_reducible refine gate_callee (f := 151) rfl ?_); refine goesL_ (some 27) rfl rfl Tryz.func151 (by kernel_rfl) rfl #[.string t299] rfl sqA ?_; (with_reducible refine (strconv_Atoi.calls t299 t303 none _ ?sideG A9.out).mono ?_); (case sideG => exact Glob.below hG (sqB1 HB GE297)); rintro e w10 ⟨qe, hqe, rfl, hb⟩; obtain rfl := isNone_none hqe; refine ⟨_, rfl, ?_⟩; replace BK297 := sqT BK297 hb; replace HB := sqS (sqB1 HB GE297) hb; (try clear hb); (try simp only [errP_none, errP_some])))
    go_meet
    case rel => exact ⟨_, (t303), (0), (0), Z1, H', ⟨Z16⟩, ⟨sqK BK297⟩, ⟨sqB1 HB GE297⟩⟩
   ·have H1 : (some (0, 0, false)) = some (r1, r2, r3) := by rw [if_neg (show ¬ (some q305).isNone = true by simp)] at H; exact H
    clear H
    have H := H1
    clear H1
    try simp only [errP_none, errP_some]
    obtain ⟨rfl, rfl, rfl⟩ := sqO3 H
    go_wp2_with (first | ((with_reducible refine gate_callee (f := 151) rfl ?_); refine goesL_ (some 27) rfl rfl Tryz.func151 (by kernel_rfl) rfl #[.string t299] rfl sqA ?_; (with_reducible refine (strconv_Atoi.calls t299 t303 (some q305) _ ?sideG A9.out).mono ?_); (case sideG => exact Glob.below hG (sqB1 HB GE297)); rintro e w11 ⟨qe, hqe, rfl, hb⟩; obtain ⟨qz, rfl⟩ := isNone_some hqe; refine ⟨_, rfl, ?_⟩; replace BK297 := sqT BK297 hb; replace HB := sqS (sqB1 HB GE297) hb; (try clear hb); (try simp only [errP_none, errP_some]); obtain ⟨hcz12_0, hcz12_1, hfz12_0, hfz12_1⟩ := sqY2 BK297))
    refine bodyPost_ret (results_ct rfl _ _ gb297 31 #[.int .i64 0, .int .i64 0] (0, 0) _ rfl (Z11 BK297) Tryz.underlying31 rfl (by kernel_rfl)) rfl ?_
    exact ⟨Z3, sqB1 HB GE297⟩
  ·replace c8 := Bool.eq_false_iff.mpr c8
   subst c8
   rw [if_neg sqF] at H
   have H' := Aside0.mk H
   clear H
   go_wp2
   go_meet
   case rel => exact ⟨_, (1), (0), (0), Z1, H', ⟨Z16⟩, ⟨sqK BK297⟩, ⟨sqB1 HB GE297⟩⟩
 case rest =>
  clear HC4
  try clear c1; try clear p2; try clear q3; try clear c8; try clear c12; try clear hcz12_0; try clear hcz12_1; try clear hfz12_0; try clear hfz12_1; try clear q305
  obtain ⟨kq, x9_3, x298000_3, x298001_3, rfl, HA, HJ3, BK297, HB⟩ := hcut
  cases kq with
  | zero => exact absurd HA.out (by simp [impl_ReadFraction.j0])
  | succ kj3 =>
   have H := HA.out
   clear HA
   simp only [impl_ReadFraction.j0] at H
   rcases t302 with _ | q307
   ·obtain rfl := isNone_none hq_t302
    have H1 : ((impl_isFraction.f kj3 t301 x9_3).bind fun t308 => (if t308 = true then ((impl_fractionText.f t301 x9_3).bind fun t309 => (if t309.toList = a0.toList then (some (t301, x9_3, true)) else (some (0, 0, false)))) else (some (0, 0, false)))) = some (r1, r2, r3) := by rw [if_pos (show (none : Option Int).isNone = true by rfl)] at H; exact H
    clear H
    have H := H1
    clear H1
    try simp only [errP_none, errP_some]
    obtain ⟨t308, A13, H⟩ := sqD H
    by_cases c14 : t308 = true
    ·subst c14
     rw [if_pos rfl] at H
     obtain ⟨t309, A15, H⟩ := sqD H
     by_cases c16 : t309.toList = a0.toList
     ·rw [if_pos c16] at H
      have c16b0 : (t309.toList == a0.toList) = true := beq_iff_eq.mpr c16
      have c16b1 : (t309.toList != a0.toList) = false := bne_eq_false_iff_eq.mpr c16
      clear c16
      obtain ⟨rfl, rfl, rfl⟩ := sqO3 H
      go_wp2_with (first | ((with_reducible refine gate_dst (N := 12) rfl ?_); refine sqBox (N := 12) (cs := #[.int .i64 0, .int .i64 0]) (t := 31) ?_; intro gb306 hg w17 BK306 hb; have GW306 := Aside0.mk ((sqG hg (sqB1 HB GE297))); have GE306 := GW306; replace HB := sqS (sqB1 HB GE297) hb; obtain ⟨NB297_306, NB306_297⟩ := sqM hg BK297; replace BK297 := sqT BK297 hb; clear hb hg; have hnb18 := NB306_297.out; have hnc18 := NB297_306.out; obtain ⟨hcz19_0, hcz19_1, hfz19_0, hfz19_1⟩ := sqY2 BK306) | (go_at_call 70; (with_reducible refine (impl_isFraction.calls kj3 t301 x9_3 true _ A13.out).mono ?_); rintro e w20 ⟨rfl, hb⟩; replace BK297 := Aside0.mk (blk_below (g := gb297) (o := .cells #[.int .i64 x298000_3, .int .i64 x298001_3] 31 (0, 0)) (Z14 NB297_306 BK297) hb); replace BK306 := Aside0.mk (blk_below (g := gb306) (o := .cells #[.int .i64 t301, .int .i64 x9_3] 31 (0, 0)) (Z17 BK306) hb); replace HB := sqS (sqB2 HB GE297 GE306) hb; (try clear hb); obtain ⟨hcz21_0, hcz21_1, hfz21_0, hfz21_1⟩ := sqY2 BK306) | (go_at_call 141; (with_reducible refine (impl_fractionText.calls t301 x9_3 t309 _ ?sideG A15.out).mono ?_); (case sideG => exact Glob.below hG (sqB2 HB GE297 GE306)); rintro e w22 ⟨rfl, hb⟩; replace BK297 := sqT BK297 hb; replace BK306 := sqT BK306 hb; replace HB := sqS (sqB2 HB GE297 GE306) hb; (try clear hb); obtain ⟨hcz23_0, hcz23_1, hfz23_0, hfz23_1⟩ := sqY2 BK306; obtain ⟨hcz24_0, hcz24_1, hfz24_0, hfz24_1⟩ := sqY2 BK297))
      refine bodyPost_ret (results_ct rfl _ _ gb297 31 #[.int .i64 t301, .int .i64 x9_3] (0, 0) _ rfl (by refine sqPut (cs := #[.int .i64 t301, .int .i64 x298001_3]) ?_ 1; refine sqPut (cs := #[.int .i64 x298000_3, .int .i64 x298001_3]) ?_ 0; exact sqK BK297) Tryz.underlying31 rfl (by kernel_rfl)) rfl ?_
      exact ⟨Z3, sqB2 HB GE297 GE306⟩
     ·rw [if_neg c16] at H
      have c16b0 : (t309.toList == a0.toList) = false := beq_eq_false_iff_ne.mpr c16
      have c16b1 : (t309.toList != a0.toList) = true := bne_iff_ne.mpr c16
      obtain ⟨rfl, rfl, rfl⟩ := sqO3 H
      go_wp2_with (first | ((with_reducible refine gate_dst (N := 12) rfl ?_); refine sqBox (N := 12) (cs := #[.int .i64 0, .int .i64 0]) (t := 31) ?_; intro gb306 hg w25 BK306 hb; have GW306 := Aside0.mk ((sqG hg (sqB1 HB GE297))); have GE306 := GW306; replace HB := sqS (sqB1 HB GE297) hb; obtain ⟨NB297_306, NB306_297⟩ := sqM hg BK297; replace BK297 := sqT BK297 hb; clear hb hg; have hnb26 := NB306_297.out; have hnc26 := NB297_306.out; obtain ⟨hcz27_0, hcz27_1, hfz27_0, hfz27_1⟩ := sqY2 BK306) | (go_at_call 70; (with_reducible refine (impl_isFraction.calls kj3 t301 x9_3 true _ A13.out).mono ?_); rintro e w28 ⟨rfl, hb⟩; replace BK297 := Aside0.mk (blk_below (g := gb297) (o := .cells #[.int .i64 x298000_3, .int .i64 x298001_3] 31 (0, 0)) (Z14 NB297_306 BK297) hb); replace BK306 := Aside0.mk (blk_below (g := gb306) (o := .cells #[.int .i64 t301, .int .i64 x9_3] 31 (0, 0)) (Z17 BK306) hb); replace HB := sqS (sqB2 HB GE297 GE306) hb; (try clear hb); obtain ⟨hcz29_0, hcz29_1, hfz29_0, hfz29_1⟩ := sqY2 BK306) | (go_at_call 141; (with_reducible refine (impl_fractionText.calls t301 x9_3 t309 _ ?sideG A15.out).mono ?_); (case sideG => exact Glob.below hG (sqB2 HB GE297 GE306)); rintro e w30 ⟨rfl, hb⟩; replace BK297 := sqT BK297 hb; replace BK306 := sqT BK306 hb; replace HB := sqS (sqB2 HB GE297 GE306) hb; (try clear hb); obtain ⟨hcz31_0, hcz31_1, hfz31_0, hfz31_1⟩ := sqY2 BK297))
      refine bodyPost_ret (results_ct rfl _ _ gb297 31 #[.int .i64 0, .int .i64 0] (0, 0) _ rfl (Z18 BK297) Tryz.underlying31 rfl (by kernel_rfl)) rfl ?_
      exact ⟨Z3, sqB2 HB GE297 GE306⟩
    ·replace c14 := Bool.eq_false_iff.mpr c14
     subst c14
     rw [if_neg sqF] at H
     obtain ⟨rfl, rfl, rfl⟩ := sqO3 H
     go_wp2_with (first | ((with_reducible refine gate_dst (N := 12) rfl ?_); refine sqBox (N := 12) (cs := #[.int .i64 0, .int .i64 0]) (t := 31) ?_; intro gb306 hg w32 BK306 hb; have GW306 := Aside0.mk ((sqG hg (sqB1 HB GE297))); have GE306 := GW306; replace HB := sqS (sqB1 HB GE297) hb; obtain ⟨NB297_306, NB306_297⟩ := sqM hg BK297; replace BK297 := sqT BK297 hb; clear hb hg; have hnb33 := NB306_297.out; have hnc33 := NB297_306.out; obtain ⟨hcz34_0, hcz34_1, hfz34_0, hfz34_1⟩ := sqY2 BK306) | (go_at_call 70; (with_reducible refine (impl_isFraction.calls kj3 t301 x9_3 false _ A13.out).mono ?_); rintro e w35 ⟨rfl, hb⟩; replace BK297 := Aside0.mk (blk_below (g := gb297) (o := .cells #[.int .i64 x298000_3, .int .i64 x298001_3] 31 (0, 0)) (Z14 NB297_306 BK297) hb); replace BK306 := Aside0.mk (blk_below (g := gb306) (o := .cells #[.int .i64 t301, .int .i64 x9_3] 31 (0, 0)) (Z17 BK306) hb); replace HB := sqS (sqB2 HB GE297 GE306) hb; (try clear hb); obtain ⟨hcz36_0, hcz36_1, hfz36_0, hfz36_1⟩ := sqY2 BK297))
     refine bodyPost_ret (results_ct rfl _ _ gb297 31 #[.int .i64 0, .int .i64 0] (0, 0) _ rfl (Z18 BK297) Tryz.underlying31 rfl (by kernel_rfl)) rfl ?_
     exact ⟨Z3, sqB2 HB GE297 GE306⟩
   ·obtain ⟨qz_, rfl⟩ := isNone_some hq_t302
    have H1 : (some (0, 0, false)) = some (r1, r2, r3) := by rw [if_neg (show ¬ (some q307).isNone = true by simp)] at H; exact H
    clear H
    have H := H1
    clear H1
    try simp only [errP_none, errP_some]
    obtain ⟨rfl, rfl, rfl⟩ := sqO3 H
    go_wp2_with (first | ((with_reducible refine gate_dst (N := 12) rfl ?_); refine sqBox (N := 12) (cs := #[.int .i64 0, .int .i64 0]) (t := 31) ?_; intro gb306 hg w37 BK306 hb; have GW306 := Aside0.mk ((sqG hg (sqB1 HB GE297))); have GE306 := GW306; replace HB := sqS (sqB1 HB GE297) hb; obtain ⟨NB297_306, NB306_297⟩ := sqM hg BK297; replace BK297 := sqT BK297 hb; clear hb hg; have hnb38 := NB306_297.out; have hnc38 := NB297_306.out; obtain ⟨hcz39_0, hcz39_1, hfz39_0, hfz39_1⟩ := sqY2 BK306; obtain ⟨hcz40_0, hcz40_1, hfz40_0, hfz40_1⟩ := sqY2 BK297))
    refine bodyPost_ret (results_ct rfl _ _ gb297 31 #[.int .i64 0, .int .i64 0] (0, 0) _ rfl (by refine sqPut (cs := #[.int .i64 0, .int .i64 x298001_3]) ?_ 1; refine sqPut (cs := #[.int .i64 x298000_3, .int .i64 x298001_3]) ?_ 0; refine sqFar ?_ NB297_306; refine sqFar ?_ NB297_306; exact sqK BK297) Tryz.underlying31 rfl (by kernel_rfl)) rfl ?_
    exact ⟨Z3, sqB2 HB GE297 GE306⟩

/-! ### impl_mirrored: function 138 -/
def impl_mirrored.f (a0_0 : Int) (a0_1 : Int) : Option (Int × Int) := if a0_1 > 0 then (some (wrap64 (-a0_0), a0_1)) else (some (a0_0, a0_1))
set_option maxHeartbeats 8000000 in
set_option maxRecDepth 100000 in
theorem impl_mirrored.calls (a0_0 : Int) (a0_1 : Int) (r1 : Int) (r2 : Int) (w : World) (h : impl_mirrored.f a0_0 a0_1 = some (r1, r2)) :
  Calls Tryz.prog 138 #[.agg #[.int .i64 a0_0, .int .i64 a0_1]] w fun e w' => e = .returned (.agg #[.int .i64 r1, .int .i64 r2]) ∧ Below w.heap.size w w' := by
 have hu31 := Tryz.underlying31
 have HB := Aside0.mk (Below.refl w.heap.size w)
 have H : (if a0_1 > 0 then (some (wrap64 (-a0_0), a0_1)) else (some (a0_0, a0_1))) = some (r1, r2) := h
 clear h
 by_cases c2 : a0_1 > 0
 ·rw [if_pos c2] at H
  have c2b0 : decide (0 < a0_1) = true := decide_eq_true c2
  clear c2
  obtain ⟨rfl, rfl⟩ := sqO2 H
  go_enter Tryz.func138, Tryz.ntmps138
  go_wp2_with (first | ((with_reducible refine gate_dst (N := 1) rfl ?_); refine sqBox (N := 1) (cs := #[.int .i64 a0_0, .int .i64 a0_1]) (t := 31) ?_; intro gb310 hg w3 BK310 hb; have GW310 := Aside0.mk ((sqG hg (sqB HB))); have GE310 := GW310; replace HB := sqS (sqB HB) hb; clear hb hg) | ((with_reducible refine gate_dst (N := 2) rfl ?_); refine sqBox (N := 2) (cs := #[.int .i64 0, .int .i64 0]) (t := 31) ?_; intro gb311 hg w4 BK311 hb; have GW311 := Aside0.mk ((sqG hg (sqB1 HB GE310))); have GE311 := GW311; replace HB := sqS (sqB1 HB GE310) hb; obtain ⟨NB310_311, NB311_310⟩ := sqM hg BK310; replace BK310 := sqT BK310 hb; clear hb hg; have hnb5 := NB310_311.out; have hnc5 := NB311_310.out; obtain ⟨hcz6_0, hcz6_1, hfz6_0, hfz6_1⟩ := sqY2 BK310; obtain ⟨hcz7_0, hcz7_1, hfz7_0, hfz7_1⟩ := sqY2 BK311))
  refine bodyPost_ret (results_cell_row rfl _ _ gb311 31 #[.int .i64 (wrap64 (-a0_0)), .int .i64 a0_1] (0, 0) _ rfl (by refine sqPut (cs := #[.int .i64 (wrap64 (-a0_0)), .int .i64 0]) ?_ 1; refine sqPut (cs := #[.int .i64 0, .int .i64 0]) ?_ 0; refine sqFar ?_ NB311_310; exact sqK BK311) Tryz.underlying31 rfl (by kernel_rfl)) rfl ?_
  exact ⟨Z3, sqB2 HB GE310 GE311⟩
 ·rw [if_neg c2] at H
  have c2b0 : decide (0 < a0_1) = false := decide_eq_false c2
  clear c2
  obtain ⟨rfl, rfl⟩ := sqO2 H
  go_enter Tryz.func138, Tryz.ntmps138
  go_wp2_with (first | ((with_reducible refine gate_dst (N := 1) rfl ?_); refine sqBox (N := 1) (cs := #[.int .i64 a0_0, .int .i64 a0_1]) (t := 31) ?_; intro gb310 hg w8 BK310 hb; have GW310 := Aside0.mk ((sqG hg (sqB HB))); have GE310 := GW310; replace HB := sqS (sqB HB) hb; clear hb hg) | ((with_reducible refine gate_dst (N := 2) rfl ?_); refine sqBox (N := 2) (cs := #[.int .i64 0, .int .i64 0]) (t := 31) ?_; intro gb311 hg w9 BK311 hb; have GW311 := Aside0.mk ((sqG hg (sqB1 HB GE310))); have GE311 := GW311; replace HB := sqS (sqB1 HB GE310) hb; obtain ⟨NB310_311, NB311_310⟩ := sqM hg BK310; replace BK310 := sqT BK310 hb; clear hb hg; have hnb10 := NB310_311.out; have hnc10 := NB311_310.out; obtain ⟨hcz11_0, hcz11_1, hfz11_0, hfz11_1⟩ := sqY2 BK310; obtain ⟨hcz12_0, hcz12_1, hfz12_0, hfz12_1⟩ := sqY2 BK311))
  refine bodyPost_ret (results_cell_row rfl _ _ gb311 31 #[.int .i64 a0_0, .int .i64 a0_1] (0, 0) _ rfl (Z19 BK311) Tryz.underlying31 rfl (by kernel_rfl)) rfl ?_
  exact ⟨Z3, sqB2 HB GE310 GE311⟩

/-! ### impl_nextFraction: function 111 -/
def impl_nextFraction.j0 : Nat → Bool → Int → Int → Int → ByteArray → Option (Int × Int × Bool)
 | 0, _, _, _, _, _ => none
 | k + 1, x25, x313000, x313001, x314000, x314001 => if x25 = true then ((impl_mirrored.f x313000 x313001).bind fun bt321 => (some (bt321.1, bt321.2, true))) else (if x314000 = 3 then (if x314001.toList = ([] : List UInt8) then ((impl_isSmall.f k x313000 x313001 12).bind fun t323 => (some (0, 1, t323))) else (some (0, 0, false))) else (some (0, 0, false)))
def impl_nextFraction.f (k : Nat) (a0_0 : Int) (a0_1 : Int) (a1_0 : Int) (a1_1 : ByteArray) : Option (Int × Int × Bool) := if a1_0 = 0 then ((impl_DancedFrom.f k a0_0 a0_1 a1_1).bind fun bt315 => (some (bt315.1, bt315.2.1, bt315.2.2))) else (if a1_0 = 1 then ((impl_ReadFraction.f k a1_1).bind fun bt318 => (some (bt318.1, bt318.2.1, bt318.2.2))) else (if a1_0 = 2 then (impl_nextFraction.j0 k (a1_1.toList == ([] : List UInt8)) a0_0 a0_1 a1_0 a1_1) else (impl_nextFraction.j0 k false a0_0 a0_1 a1_0 a1_1)))
theorem impl_nextFraction.mono_l : ∀ k, (∀ y0 y1 y2 y3 y4, LeO (impl_nextFraction.j0 k y0 y1 y2 y3 y4) (impl_nextFraction.j0 (k + 1) y0 y1 y2 y3 y4))
 | 0 => fun _ _ _ _ _ r h => by simp [impl_nextFraction.j0] at h
 | k + 1 => by
  have ih0 := impl_nextFraction.mono_l k
  ·intro y0 y1 y2 y3 y4
   unfold impl_nextFraction.j0
   repeat' first
   | (with_reducible exact ih0 _ _ _ _ _)
   | (with_reducible exact impl_DancedFrom.mono _ _ _ _)
   | (with_reducible exact impl_ReadFraction.mono _ _)
   | (with_reducible exact impl_isSmall.mono _ _ _ _)
   | (with_reducible exact LeO.refl _)
   | (with_reducible exact LeO.none _)
   | (with_reducible refine LeO.ite ?_ ?_)
   | (with_reducible refine LeO.bind ?_ (fun _ => ?_))
theorem impl_nextFraction.mono : ∀ a0 a1 a2 a3 k, LeO (impl_nextFraction.f k a0 a1 a2 a3) (impl_nextFraction.f (k + 1) a0 a1 a2 a3) := by
 intro a0 a1 a2 a3 k
 have ih0 := impl_nextFraction.mono_l k
 unfold impl_nextFraction.f
 repeat' first
   | (with_reducible exact ih0 _ _ _ _ _)
   | (with_reducible exact impl_DancedFrom.mono _ _ _ _)
   | (with_reducible exact impl_ReadFraction.mono _ _)
   | (with_reducible exact impl_isSmall.mono _ _ _ _)
   | (with_reducible exact LeO.refl _)
   | (with_reducible exact LeO.none _)
   | (with_reducible refine LeO.ite ?_ ?_)
   | (with_reducible refine LeO.bind ?_ (fun _ => ?_))
set_option maxHeartbeats 8000000 in
set_option maxRecDepth 100000 in
theorem impl_nextFraction.calls (k : Nat) (a0_0 : Int) (a0_1 : Int) (a1_0 : Int) (a1_1 : ByteArray) (r1 : Int) (r2 : Int) (r3 : Bool) (w : World) (hG : Glob w) (h : impl_nextFraction.f k a0_0 a0_1 a1_0 a1_1 = some (r1, r2, r3)) :
  Calls Tryz.prog 111 #[.agg #[.int .i64 a0_0, .int .i64 a0_1], .agg #[.int .i64 a1_0, .string a1_1]] w fun e w' => e = .returned (.tuple #[.agg #[.int .i64 r1, .int .i64 r2], .bool r3]) ∧ Below w.heap.size w w' := by
 have hu31 := Tryz.underlying31
 have hu38 := Tryz.underlying38
 have HB := Aside0.mk (Below.refl w.heap.size w)
 have H : (if a1_0 = 0 then ((impl_DancedFrom.f k a0_0 a0_1 a1_1).bind fun bt315 => (some (bt315.1, bt315.2.1, bt315.2.2))) else (if a1_0 = 1 then ((impl_ReadFraction.f k a1_1).bind fun bt318 => (some (bt318.1, bt318.2.1, bt318.2.2))) else (if a1_0 = 2 then (impl_nextFraction.j0 k (a1_1.toList == ([] : List UInt8)) a0_0 a0_1 a1_0 a1_1) else (impl_nextFraction.j0 k false a0_0 a0_1 a1_0 a1_1)))) = some (r1, r2, r3) := h
 clear h
 by_cases c3 : a1_0 = 0
 ·rw [if_pos c3] at H
  have c3b0 : (a1_0 == 0) = true := beq_iff_eq.mpr c3
  have c3b1 : (a1_0 != 0) = false := bne_eq_false_iff_eq.mpr c3
  clear c3
  obtain ⟨⟨t315, t316, t317⟩, A4, H⟩ := sqD H
  try dsimp only at H
  obtain ⟨rfl, rfl, rfl⟩ := sqO3 H
  go_enter Tryz.func111, Tryz.ntmps111
  go_wp2_with (first | ((with_reducible refine gate_dst (N := 2) rfl ?_); refine sqBox (N := 2) (cs := #[.int .i64 a0_0, .int .i64 a0_1]) (t := 31) ?_; intro gb312 hg w5 BK312 hb; have GW312 := Aside0.mk ((sqG hg (sqB HB))); have GE312 := GW312; replace HB := sqS (sqB HB) hb; clear hb hg) | ((with_reducible refine gate_dst (N := 3) rfl ?_); refine sqBox (N := 3) (cs := #[.int .i64 a1_0, .string a1_1]) (t := 38) ?_; intro gb313 hg w6 BK313 hb; have GW313 := Aside0.mk ((sqG hg (sqB1 HB GE312))); have GE313 := GW313; replace HB := sqS (sqB1 HB GE312) hb; obtain ⟨NB312_313, NB313_312⟩ := sqM hg BK312; replace BK312 := sqT BK312 hb; clear hb hg) | ((with_reducible refine gate_dst (N := 4) rfl ?_); refine sqBox (N := 4) (cs := #[.int .i64 0, .int .i64 0]) (t := 31) ?_; intro gb314 hg w7 BK314 hb; have GW314 := Aside0.mk ((sqG hg (sqB2 HB GE312 GE313))); have GE314 := GW314; replace HB := sqS (sqB2 HB GE312 GE313) hb; obtain ⟨NB312_314, NB314_312⟩ := sqM hg BK312; replace BK312 := sqT BK312 hb; obtain ⟨NB313_314, NB314_313⟩ := sqM hg BK313; replace BK313 := sqT BK313 hb; clear hb hg; have hnb8 := NB313_312.out; have hnc8 := NB312_313.out; have hnb9 := NB313_314.out; have hnc9 := NB314_313.out; obtain ⟨hcz10_0, hcz10_1, hfz10_0, hfz10_1⟩ := sqY2 BK313; have hnb11 := NB312_314.out; have hnc11 := NB314_312.out; obtain ⟨hcz12_0, hcz12_1, hfz12_0, hfz12_1⟩ := sqY2 BK312) | ((with_reducible refine gate_callee (f := 25) rfl ?_); refine goesL_ (some 13) rfl rfl Tryz.func25 (by kernel_rfl) rfl #[.agg #[.int .i64 a0_0, .int .i64 a0_1], .string a1_1] rfl sqA ?_; (with_reducible refine (impl_DancedFrom.calls k a0_0 a0_1 a1_1 t315 t316 t317 _ A4.out).mono ?_); rintro e w13 ⟨rfl, hb⟩; refine ⟨_, rfl, ?_⟩; replace BK312 := sqT BK312 hb; replace BK313 := sqT BK313 hb; replace BK314 := sqT BK314 hb; replace HB := sqS (sqB3 HB GE312 GE313 GE314) hb; (try clear hb); obtain ⟨hcz14_0, hcz14_1, hfz14_0, hfz14_1⟩ := sqY2 BK314))
  refine bodyPost_ret (results_ct rfl _ _ gb314 31 #[.int .i64 t315, .int .i64 t316] (0, 0) _ rfl (by refine sqPut (cs := #[.int .i64 t315, .int .i64 0]) ?_ 1; refine sqPut (cs := #[.int .i64 0, .int .i64 0]) ?_ 0; exact sqK BK314) Tryz.underlying31 rfl (by kernel_rfl)) rfl ?_
  exact ⟨Z3, sqB3 HB GE312 GE313 GE314⟩
 ·rw [if_neg c3] at H
  have c3b0 : (a1_0 == 0) = false := beq_eq_false_iff_ne.mpr c3
  have c3b1 : (a1_0 != 0) = true := bne_iff_ne.mpr c3
  by_cases c15 : a1_0 = 1
  ·rw [if_pos c15] at H
   have c15b0 : (a1_0 == 1) = true := beq_iff_eq.mpr c15
   have c15b1 : (a1_0 != 1) = false := bne_eq_false_iff_eq.mpr c15
   clear c15
   obtain ⟨⟨t318, t319, t320⟩, A16, H⟩ := sqD H
   try dsimp only at H
   obtain ⟨rfl, rfl, rfl⟩ := sqO3 H
   go_enter Tryz.func111, Tryz.ntmps111
   go_wp2_with (first | ((with_reducible refine gate_dst (N := 2) rfl ?_); refine sqBox (N := 2) (cs := #[.int .i64 a0_0, .int .i64 a0_1]) (t := 31) ?_; intro gb312 hg w17 BK312 hb; have GW312 := Aside0.mk ((sqG hg (sqB HB))); have GE312 := GW312; replace HB := sqS (sqB HB) hb; clear hb hg) | ((with_reducible refine gate_dst (N := 3) rfl ?_); refine sqBox (N := 3) (cs := #[.int .i64 a1_0, .string a1_1]) (t := 38) ?_; intro gb313 hg w18 BK313 hb; have GW313 := Aside0.mk ((sqG hg (sqB1 HB GE312))); have GE313 := GW313; replace HB := sqS (sqB1 HB GE312) hb; obtain ⟨NB312_313, NB313_312⟩ := sqM hg BK312; replace BK312 := sqT BK312 hb; clear hb hg) | ((with_reducible refine gate_dst (N := 4) rfl ?_); refine sqBox (N := 4) (cs := #[.int .i64 0, .int .i64 0]) (t := 31) ?_; intro gb314 hg w19 BK314 hb; have GW314 := Aside0.mk ((sqG hg (sqB2 HB GE312 GE313))); have GE314 := GW314; replace HB := sqS (sqB2 HB GE312 GE313) hb; obtain ⟨NB312_314, NB314_312⟩ := sqM hg BK312; replace BK312 := sqT BK312 hb; obtain ⟨NB313_314, NB314_313⟩ := sqM hg BK313; replace BK313 := sqT BK313 hb; clear hb hg; have hnb20 := NB313_312.out; have hnc20 := NB312_313.out; have hnb21 := NB313_314.out; have hnc21 := NB314_313.out; obtain ⟨hcz22_0, hcz22_1, hfz22_0, hfz22_1⟩ := sqY2 BK313) | ((with_reducible refine gate_callee (f := 126) rfl ?_); refine goesL_ (some 22) rfl rfl Tryz.func126 (by kernel_rfl) rfl #[.string a1_1] rfl sqA ?_; (with_reducible refine (impl_ReadFraction.calls k a1_1 t318 t319 t320 _ ?sideG A16.out).mono ?_); (case sideG => exact Glob.below hG (sqB3 HB GE312 GE313 GE314)); rintro e w23 ⟨rfl, hb⟩; refine ⟨_, rfl, ?_⟩; replace BK312 := sqT BK312 hb; replace BK313 := sqT BK313 hb; replace BK314 := sqT BK314 hb; replace HB := sqS (sqB3 HB GE312 GE313 GE314) hb; (try clear hb); have hnb24 := NB314_312.out; have hnc24 := NB312_314.out; obtain ⟨hcz25_0, hcz25_1, hfz25_0, hfz25_1⟩ := sqY2 BK314))
   refine bodyPost_ret (results_ct rfl _ _ gb314 31 #[.int .i64 t318, .int .i64 t319] (0, 0) _ rfl (by refine sqPut (cs := #[.int .i64 t318, .int .i64 0]) ?_ 1; refine sqPut (cs := #[.int .i64 0, .int .i64 0]) ?_ 0; exact sqK BK314) Tryz.underlying31 rfl (by kernel_rfl)) rfl ?_
   exact ⟨Z3, sqB3 HB GE312 GE313 GE314⟩
  ·rw [if_neg c15] at H
   have c15b0 : (a1_0 == 1) = false := beq_eq_false_iff_ne.mpr c15
   have c15b1 : (a1_0 != 1) = true := bne_iff_ne.mpr c15
   have HC26 := Aside0.mk H
   clear H
   go_enter Tryz.func111, Tryz.ntmps111
   go_upto_region 5 with (first | ((with_reducible refine gate_dst (N := 2) rfl ?_); refine sqBox (N := 2) (cs := #[.int .i64 a0_0, .int .i64 a0_1]) (t := 31) ?_; intro gb312 hg w27 BK312 hb; have GW312 := Aside0.mk ((sqG hg (sqB HB))); have GE312 := GW312; replace HB := sqS (sqB HB) hb; clear hb hg) | ((with_reducible refine gate_dst (N := 3) rfl ?_); refine sqBox (N := 3) (cs := #[.int .i64 a1_0, .string a1_1]) (t := 38) ?_; intro gb313 hg w28 BK313 hb; have GW313 := Aside0.mk ((sqG hg (sqB1 HB GE312))); have GE313 := GW313; replace HB := sqS (sqB1 HB GE312) hb; obtain ⟨NB312_313, NB313_312⟩ := sqM hg BK312; replace BK312 := sqT BK312 hb; clear hb hg) | ((with_reducible refine gate_dst (N := 4) rfl ?_); refine sqBox (N := 4) (cs := #[.int .i64 0, .int .i64 0]) (t := 31) ?_; intro gb314 hg w29 BK314 hb; have GW314 := Aside0.mk ((sqG hg (sqB2 HB GE312 GE313))); have GE314 := GW314; replace HB := sqS (sqB2 HB GE312 GE313) hb; obtain ⟨NB312_314, NB314_312⟩ := sqM hg BK312; replace BK312 := sqT BK312 hb; obtain ⟨NB313_314, NB314_313⟩ := sqM hg BK313; replace BK313 := sqT BK313 hb; clear hb hg; have hnb30 := NB313_312.out; have hnc30 := NB312_313.out; have hnb31 := NB313_314.out; have hnc31 := NB314_313.out; obtain ⟨hcz32_0, hcz32_1, hfz32_0, hfz32_1⟩ := sqY2 BK313))
   (try simp only [Act.put, List.setIfInBounds_toArray, List.set_cons_zero, List.set_cons_succ])
   go_cut [25] (fun v25 wc => ∃ (kq : Nat) (x25_25 : Bool), v25 = .bool x25_25 ∧ Aside0 (impl_nextFraction.j0 kq x25_25 a0_0 a0_1 a1_0 a1_1 = some (r1, r2, r3)) ∧ Aside0 (kq ≤ k) ∧ Aside0 (wc.heap[gb312]? = some (.cells #[.int .i64 a0_0, .int .i64 a0_1] 31 (0, 0))) ∧ Aside0 (wc.heap[gb313]? = some (.cells #[.int .i64 a1_0, .string a1_1] 38 (0, 0))) ∧ Aside0 (wc.heap[gb314]? = some (.cells #[.int .i64 0, .int .i64 0] 31 (0, 0))) ∧ Aside0 (Below w.heap.size w wc))
   case first =>
    have H := HC26.out
    clear HC26
    by_cases c33 : a1_0 = 2
    ·rw [if_pos c33] at H
     have c33b0 : (a1_0 == 2) = true := beq_iff_eq.mpr c33
     have c33b1 : (a1_0 != 2) = false := bne_eq_false_iff_eq.mpr c33
     clear c33
     (first | rw [c33b0] | (simp only [i64_w, i32_w]; rw [c33b0]) | skip)
     have H' := Aside0.mk H
     clear H
     have hnb34 := NB313_312.out
     have hnc34 := NB312_313.out
     have hnb35 := NB313_314.out
     have hnc35 := NB314_313.out
     obtain ⟨hcz36_0, hcz36_1, hfz36_0, hfz36_1⟩ := sqY2 BK313
     go_wp2
     go_meet
     case rel => exact ⟨_, ((a1_1.toList == ([] : List UInt8))), Z1, H', ⟨Z16⟩, ⟨sqK BK312⟩, ⟨sqK BK313⟩, ⟨sqK BK314⟩, ⟨sqB3 HB GE312 GE313 GE314⟩⟩
    ·rw [if_neg c33] at H
     have c33b0 : (a1_0 == 2) = false := beq_eq_false_iff_ne.mpr c33
     have c33b1 : (a1_0 != 2) = true := bne_iff_ne.mpr c33
     (first | rw [c33b0] | (simp only [i64_w, i32_w]; rw [c33b0]) | skip)
     have H' := Aside0.mk H
     clear H
     have hnb37 := NB313_312.out
     have hnc37 := NB312_313.out
     have hnb38 := NB313_314.out
     have hnc38 := NB314_313.out
     obtain ⟨hcz39_0, hcz39_1, hfz39_0, hfz39_1⟩ := sqY2 BK313
     go_wp2
     go_meet
     case rel => exact ⟨_, (false), Z1, H', ⟨Z16⟩, ⟨sqK BK312⟩, ⟨sqK BK313⟩, ⟨sqK BK314⟩, ⟨sqB3 HB GE312 GE313 GE314⟩⟩
   case rest =>
    clear HC26
    try clear c1; try clear c2; try clear p2; try clear c3; try clear c3b0; try clear c3b1; try clear c8; try clear c9; try clear c11; try clear c12; try clear c15; try clear c15b0; try clear c15b1; try clear c20; try clear c21; try clear c24; try clear c25; try clear c30; try clear c31; try clear c33; try clear c33b0; try clear c33b1; try clear c34; try clear c35; try clear c37; try clear c38; try clear hcz10_0; try clear hcz10_1; try clear hcz12_0; try clear hcz12_1; try clear hcz14_0; try clear hcz14_1; try clear hcz22_0; try clear hcz22_1; try clear hcz25_0; try clear hcz25_1; try clear hcz32_0; try clear hcz32_1; try clear hcz36_0; try clear hcz36_1; try clear hcz39_0; try clear hcz39_1; try clear hfz10_0; try clear hfz10_1; try clear hfz12_0; try clear hfz12_1; try clear hfz14_0; try clear hfz14_1; try clear hfz22_0; try clear hfz22_1; try clear hfz25_0; try clear hfz25_1; try clear hfz32_0; try clear hfz32_1; try clear hfz36_0; try clear hfz36_1; try clear hfz39_0; try clear hfz39_1
    obtain ⟨kq, x25_25, rfl, HA, HJ25, BK312, BK313, BK314, HB⟩ := hcut
    cases kq with
    | zero => exact absurd HA.out (by simp [impl_nextFraction.j0])
    | succ kj25 =>
     have H := HA.out
     clear HA
     simp only [impl_nextFraction.j0] at H
     by_cases c40 : x25_25 = true
     ·subst c40
      rw [if_pos rfl] at H
      obtain ⟨⟨t321, t322⟩, A41, H⟩ := sqD H
      try dsimp only at H
      obtain ⟨rfl, rfl, rfl⟩ := sqO3 H
      have hnb42 := NB312_313.out
      have hnc42 := NB313_312.out
      have hnb43 := NB312_314.out
      have hnc43 := NB314_312.out
      obtain ⟨hcz44_0, hcz44_1, hfz44_0, hfz44_1⟩ := sqY2 BK312
      go_wp2_with (first | ((with_reducible refine gate_callee (f := 138) rfl ?_); refine goesL_ (some 35) rfl rfl Tryz.func138 (by kernel_rfl) rfl #[.agg #[.int .i64 a0_0, .int .i64 a0_1]] rfl sqA ?_; (with_reducible refine (impl_mirrored.calls a0_0 a0_1 t321 t322 _ A41.out).mono ?_); rintro e w45 ⟨rfl, hb⟩; refine ⟨_, rfl, ?_⟩; replace BK312 := sqT BK312 hb; replace BK313 := sqT BK313 hb; replace BK314 := sqT BK314 hb; replace HB := sqS (sqB3 HB GE312 GE313 GE314) hb; (try clear hb); have hnb46 := NB314_313.out; have hnc46 := NB313_314.out; obtain ⟨hcz47_0, hcz47_1, hfz47_0, hfz47_1⟩ := sqY2 BK314))
      refine bodyPost_ret (results_ct rfl _ _ gb314 31 #[.int .i64 t321, .int .i64 t322] (0, 0) _ rfl (by refine sqPut (cs := #[.int .i64 t321, .int .i64 0]) ?_ 1; refine sqPut (cs := #[.int .i64 0, .int .i64 0]) ?_ 0; exact sqK BK314) Tryz.underlying31 rfl (by kernel_rfl)) rfl ?_
      exact ⟨Z3, sqB3 HB GE312 GE313 GE314⟩
     ·replace c40 := Bool.eq_false_iff.mpr c40
      subst c40
      rw [if_neg sqF] at H
      by_cases c48 : a1_0 = 3
      ·rw [if_pos c48] at H
       have c48b0 : (a1_0 == 3) = true := beq_iff_eq.mpr c48
       have c48b1 : (a1_0 != 3) = false := bne_eq_false_iff_eq.mpr c48
       clear c48
       by_cases c49 : a1_1.toList = ([] : List UInt8)
       ·rw [if_pos c49] at H
        have c49b0 : (a1_1.toList == ([] : List UInt8)) = true := beq_iff_eq.mpr c49
        try have c49b8 : a1_1.toList.isEmpty = true := by (have h_ := c49b0; (repeat rw [show ∀ z : List UInt8, (z == ([] : List UInt8)) = z.isEmpty from fun z => by cases z <;> rfl] at h_); exact h_)
        have c49b1 : (a1_1.toList != ([] : List UInt8)) = false := bne_eq_false_iff_eq.mpr c49
        clear c49
        obtain ⟨t323, A50, H⟩ := sqD H
        obtain ⟨rfl, rfl, rfl⟩ := sqO3 H
        have hnb51 := NB313_312.out
        have hnc51 := NB312_313.out
        have hnb52 := NB313_314.out
        have hnc52 := NB314_313.out
        obtain ⟨hcz53_0, hcz53_1, hfz53_0, hfz53_1⟩ := sqY2 BK313
        have hnb54 := NB312_314.out
        have hnc54 := NB314_312.out
        obtain ⟨hcz55_0, hcz55_1, hfz55_0, hfz55_1⟩ := sqY2 BK312
        go_wp2_with (first | ((with_reducible refine gate_callee (f := 104) rfl ?_); refine goesL_ (some 47) rfl rfl Tryz.func104 (by kernel_rfl) rfl #[.agg #[.int .i64 a0_0, .int .i64 a0_1], .int .i64 12] rfl sqA ?_; (with_reducible refine (impl_isSmall.calls kj25 a0_0 a0_1 12 t323 _ A50.out).mono ?_); rintro e w56 ⟨rfl, hb⟩; refine ⟨_, rfl, ?_⟩; replace BK312 := sqT BK312 hb; replace BK313 := sqT BK313 hb; replace BK314 := sqT BK314 hb; replace HB := sqS (sqB3 HB GE312 GE313 GE314) hb; (try clear hb); obtain ⟨hcz57_0, hcz57_1, hfz57_0, hfz57_1⟩ := sqY2 BK314))
        refine bodyPost_ret (results_ct rfl _ _ gb314 31 #[.int .i64 0, .int .i64 1] (0, 0) _ rfl (Z11 BK314) Tryz.underlying31 rfl (by kernel_rfl)) rfl ?_
        exact ⟨Z3, sqB3 HB GE312 GE313 GE314⟩
       ·rw [if_neg c49] at H
        have c49b0 : (a1_1.toList == ([] : List UInt8)) = false := beq_eq_false_iff_ne.mpr c49
        try have c49b8 : a1_1.toList.isEmpty = false := by (have h_ := c49b0; (repeat rw [show ∀ z : List UInt8, (z == ([] : List UInt8)) = z.isEmpty from fun z => by cases z <;> rfl] at h_); exact h_)
        have c49b1 : (a1_1.toList != ([] : List UInt8)) = true := bne_iff_ne.mpr c49
        obtain ⟨rfl, rfl, rfl⟩ := sqO3 H
        have hnb58 := NB313_312.out
        have hnc58 := NB312_313.out
        have hnb59 := NB313_314.out
        have hnc59 := NB314_313.out
        obtain ⟨hcz60_0, hcz60_1, hfz60_0, hfz60_1⟩ := sqY2 BK313
        have hnb61 := NB314_312.out
        have hnc61 := NB312_314.out
        obtain ⟨hcz62_0, hcz62_1, hfz62_0, hfz62_1⟩ := sqY2 BK314
        go_wp2
        refine bodyPost_ret (results_ct rfl _ _ gb314 31 #[.int .i64 0, .int .i64 0] (0, 0) _ rfl (Z11 BK314) Tryz.underlying31 rfl (by kernel_rfl)) rfl ?_
        exact ⟨Z3, sqB3 HB GE312 GE313 GE314⟩
      ·rw [if_neg c48] at H
       have c48b0 : (a1_0 == 3) = false := beq_eq_false_iff_ne.mpr c48
       have c48b1 : (a1_0 != 3) = true := bne_iff_ne.mpr c48
       obtain ⟨rfl, rfl, rfl⟩ := sqO3 H
       have hnb63 := NB313_312.out
       have hnc63 := NB312_313.out
       have hnb64 := NB313_314.out
       have hnc64 := NB314_313.out
       obtain ⟨hcz65_0, hcz65_1, hfz65_0, hfz65_1⟩ := sqY2 BK313
       have hnb66 := NB314_312.out
       have hnc66 := NB312_314.out
       obtain ⟨hcz67_0, hcz67_1, hfz67_0, hfz67_1⟩ := sqY2 BK314
       go_wp2
       refine bodyPost_ret (results_ct rfl _ _ gb314 31 #[.int .i64 0, .int .i64 0] (0, 0) _ rfl (Z11 BK314) Tryz.underlying31 rfl (by kernel_rfl)) rfl ?_
       exact ⟨Z3, sqB3 HB GE312 GE313 GE314⟩

end Go.Proofs.YtofmlbgfcohhoaaGreatDoor.PFnDeskDo
