/- Lean functions of the Go functions that the law FnExactDeskLine reaches, each with its contract: made by a program of this session. -/
import Derived.Test.YtofmlbgfcohhoaaGreatDoorPFnExactDeskLinex18
import Derived.Test.YtofmlbgfcohhoaaGreatDoorPFnExactDeskLinex20
import Derived.Test.YtofmlbgfcohhoaaGreatDoorPFnExactDeskLinex21
namespace Go.Proofs.YtofmlbgfcohhoaaGreatDoor.PFnExactDeskLine
open Go.RowKit Go.Proofs.YtofmlbgfcohhoaaGreatDoorW.PrintWords Go.Proofs.YtofmlbgfcohhoaaGreatDoorW.PrintLast Go.Proofs.YtofmlbgfcohhoaaGreatDoorW.PrintMore Go.Proofs.YtofmlbgfcohhoaaGreatDoor.Lib
attribute [local go_sem] max2_int min2_int max_two min_two max_three min_three max_four min_four   -- for this text's walks alone
set_option linter.unusedVariables false
set_option linter.unusedSimpArgs false

/-! ### spec_DeskLine: function 43 -/
mutual
def spec_DeskLine.j0 : Nat → List ByteArray → Bool → Int → Int → List (S31) → Int → Int → Option (Int × Int × (List (S31)) × ByteArray)
 | 0, _, _, _, _, _, _, _ => none
 | k + 1, x20, x128, x655000, x655001, x655002, x667000, x667001 => if x128 = true then (some (x655000, x655001, x655002, (⟨#[119, 104, 97, 116]⟩ : ByteArray))) else (if 1 < (x20.length : Int) then ((spec_l1Digits.f k (rdOf ByteArray.empty x20 1)).bind fun bt698 => (if bt698.2 = true then (spec_DeskLine.j1 k bt698.1 (decide (bt698.1 < 0)) x655000 x655001 x655002 x667000 x667001) else (spec_DeskLine.j1 k bt698.1 true x655000 x655001 x655002 x667000 x667001))) else (none))
def spec_DeskLine.j1 : Nat → Int → Bool → Int → Int → List (S31) → Int → Int → Option (Int × Int × (List (S31)) × ByteArray)
 | 0, _, _, _, _, _, _, _ => none
 | k + 1, x21, x142, x655000, x655001, x655002, x667000, x667001 => if x142 = true then (some (x655000, x655001, x655002, (⟨#[119, 104, 97, 116]⟩ : ByteArray))) else ((spec_l1In.f x21 1 12).bind fun t700 => (if t700 = true then ((spec_TiedFor.f k x667000 x667001 x21).bind fun t701 => ((spec_l1Number.f k t701).bind fun t702 => (some (x655000, x655001, x655002, t702)))) else (some (x655000, x655001, x655002, (⟨#[110, 111, 110, 101]⟩ : ByteArray)))))
end
def spec_DeskLine.f (k : Nat) (a0_0 : Int) (a0_1 : Int) (l0_2 : List (S31)) (a1 : ByteArray) : Option (Int × Int × (List (S31)) × ByteArray) := (spec_DeskOk.f k a0_0 a0_1 l0_2).bind fun t648 => (if t648 = true then ((spec_l11Copy.f a0_0 a0_1 l0_2).bind fun bt649 => ((spec_ReadDeed.f k a1).bind fun bt655 => (if bt655.2.2 = true then ((spec_DeskDo.f k a0_0 a0_1 l0_2 bt655.1 bt655.2.1).bind fun bt659 => (if bt659.2.2.2 = true then (some (bt659.1, bt659.2.1, bt659.2.2.1, (⟨#[111, 107]⟩ : ByteArray))) else (some (bt659.1, bt659.2.1, bt659.2.2.1, (⟨#[110, 111, 116]⟩ : ByteArray))))) else (if a1.toList = ([116, 101, 120, 116] : List UInt8) then ((spec_FractionText.f k a0_0 a0_1).bind fun t667 => (some (bt649.1, bt649.2.1, bt649.2.2, t667))) else (if a1.toList = ([109, 111, 118, 101, 115] : List UInt8) then ((spec_UntiedOf.f k a0_0 a0_1).bind fun bt668 => (if bt668.2 = true then (if 1 + bt668.1.size ≤ 9223372036854775807 then (some (bt649.1, bt649.2.1, bt649.2.2, (⟨#[58]⟩ : ByteArray) ++ bt668.1)) else (none)) else (some (bt649.1, bt649.2.1, bt649.2.2, (⟨#[110, 111, 110, 101]⟩ : ByteArray))))) else (if a1.toList = ([116, 101, 114, 109, 115] : List UInt8) then ((spec_TermsOf.f k a0_0 a0_1).bind fun bt670 => ((spec_l11Row.f k bt670.1).bind fun t674 => (some (bt649.1, bt649.2.1, bt649.2.2, t674)))) else (if a1.toList = ([99, 114, 111, 115, 115, 105, 110, 103, 115] : List UInt8) then ((spec_CrossingsOf.f k a0_0 a0_1).bind fun t675 => ((spec_l1Number.f k t675).bind fun t676 => (some (bt649.1, bt649.2.1, bt649.2.2, t676)))) else (if a1.toList = ([101, 110, 100, 115] : List UInt8) then ((spec_EndsFor.f k a0_0 a0_1).bind fun t677 => ((spec_l11Row.f k t677).bind fun t680 => (some (bt649.1, bt649.2.1, bt649.2.2, t680)))) else (if a1.toList = ([114, 105, 110, 103, 115] : List UInt8) then ((spec_RingsOf.f k a0_0 a0_1).bind fun t681 => ((spec_l1Number.f k t681).bind fun t682 => (some (bt649.1, bt649.2.1, bt649.2.2, t682)))) else (if a1.toList = ([108, 105, 110, 107] : List UInt8) then ((spec_LinkOf.f k a0_0 a0_1).bind fun bt683 => (if bt683.2.2 = true then ((spec_LeastOf.f k bt683.1 bt683.2.1).bind fun bt687 => ((spec_l1Number.f k bt687.1).bind fun t691 => (if t691.size + 1 ≤ 9223372036854775807 then ((spec_l1Number.f k bt687.2.1).bind fun t692 => (if (t691 ++ (⟨#[58]⟩ : ByteArray)).size + t692.size ≤ 9223372036854775807 then (some (bt649.1, bt649.2.1, bt649.2.2, (t691 ++ (⟨#[58]⟩ : ByteArray)) ++ t692)) else (none))) else (none)))) else (some (bt649.1, bt649.2.1, bt649.2.2, (⟨#[110, 111, 110, 101]⟩ : ByteArray))))) else ((spec_l1Cut.f k a1 32).bind fun t693 => (if (t693.length : Int) = 2 then (if 0 < (t693.length : Int) then (spec_DeskLine.j0 k t693 ((rdOf ByteArray.empty t693 0).toList != ([99, 111, 108, 111, 117, 114, 115] : List UInt8)) bt649.1 bt649.2.1 bt649.2.2 a0_0 a0_1) else (none)) else (spec_DeskLine.j0 k t693 true bt649.1 bt649.2.1 bt649.2.2 a0_0 a0_1))))))))))))) else (some (0, 0, ([] : List (S31)), (⟨#[]⟩ : ByteArray))))
abbrev spec_DeskLine.M (k : Nat) : Prop := (∀ y0 y1 y2 y3 y4 y5 y6, LeO (spec_DeskLine.j0 k y0 y1 y2 y3 y4 y5 y6) (spec_DeskLine.j0 (k + 1) y0 y1 y2 y3 y4 y5 y6)) ∧ (∀ y0 y1 y2 y3 y4 y5 y6, LeO (spec_DeskLine.j1 k y0 y1 y2 y3 y4 y5 y6) (spec_DeskLine.j1 (k + 1) y0 y1 y2 y3 y4 y5 y6))
theorem spec_DeskLine.mono_t : ∀ k, spec_DeskLine.M k → spec_DeskLine.M (k + 1) ∧ ∀ a0 a1 a2 a3, LeO (spec_DeskLine.f k a0 a1 a2 a3) (spec_DeskLine.f (k + 1) a0 a1 a2 a3) := by
  rintro k ⟨ih0, ih1⟩
  refine ⟨⟨?_, ?_⟩, ?_⟩ <;> intros <;> (first | unfold spec_DeskLine.j0 | unfold spec_DeskLine.j1 | unfold spec_DeskLine.f) <;> repeat' (with_reducible first | exact ih0 _ _ _ _ _ _ _ | exact ih1 _ _ _ _ _ _ _ | exact spec_CrossingsOf.mono _ _ _ | exact spec_DeskDo.mono _ _ _ _ _ _ | exact spec_DeskOk.mono _ _ _ _ | exact spec_EndsFor.mono _ _ _ | exact spec_FractionText.mono _ _ _ | exact spec_LeastOf.mono _ _ _ | exact spec_LinkOf.mono _ _ _ | exact spec_ReadDeed.mono _ _ | exact spec_RingsOf.mono _ _ _ | exact spec_TermsOf.mono _ _ _ | exact spec_TiedFor.mono _ _ _ _ | exact spec_UntiedOf.mono _ _ _ | exact spec_l11Row.mono _ _ | exact spec_l1Cut.mono _ _ _ | exact spec_l1Digits.mono _ _ | exact spec_l1Number.mono _ _ | exact LeO.refl _ | exact LeO.none _ | refine LeO.ite ?_ ?_ | refine LeO.bind ?_ fun _ => ?_)
theorem spec_DeskLine.mono_l : ∀ k, spec_DeskLine.M k
 | 0 => ⟨fun _ _ _ _ _ _ _ r h => by simp [spec_DeskLine.j0] at h, fun _ _ _ _ _ _ _ r h => by simp [spec_DeskLine.j1] at h⟩
 | k + 1 => (spec_DeskLine.mono_t k (spec_DeskLine.mono_l k)).1
theorem spec_DeskLine.mono a0 a1 a2 a3 k : LeO (spec_DeskLine.f k a0 a1 a2 a3) (spec_DeskLine.f (k + 1) a0 a1 a2 a3) := (spec_DeskLine.mono_t k (spec_DeskLine.mono_l k)).2 a0 a1 a2 a3
def spec_DeskLine.T33 : Bool × List (List Nat × List Nat) := (true, [([], []), ([], []), ([1], [1]), ([2], [2]), ([3], [3]), ([], []), ([5], [5]), ([6, 3], [6]), ([4, 7], [4, 7]), ([0, 7, 0], [0]), ([8, 9, 0, 1, 2, 3, 4, 5, 6, 7, 8, 9], [8])])
def spec_DeskLine.B33 : List Nat := [0, 0, 2, 6, 14, 0, 32, 110, 254, 239, 1023]
theorem spec_DeskLine.tab33 : rtab .any (opsOf Tryz.f43 33) = spec_DeskLine.T33 := by kernel_rfl
theorem spec_DeskLine.bits33 : waitsOk spec_DeskLine.T33.2 spec_DeskLine.B33 = true := by kernel_rfl
set_option maxHeartbeats 8000000 in
set_option maxRecDepth 100000 in
theorem spec_DeskLine.calls (k : Nat) (a0_0 : Int) (a0_1 : Int) (A0_2 : Option Addr) (c0_2 : Nat) (l0_2 : List (S31)) (a1 : ByteArray) (r1 : Int) (r2 : Int) (r3 : List (S31)) (r4 : ByteArray) (w : World) (hr0_2 : Kd.C k31 w A0_2 l0_2.length l0_2) (hc0_2 : l0_2.length ≤ c0_2) (h : spec_DeskLine.f k a0_0 a0_1 l0_2 a1 = some (r1, r2, r3, r4)) :
  Calls Tryz.prog 43 #[.agg #[.int .i64 a0_0, .int .i64 a0_1, .slice A0_2 l0_2.length c0_2], .string a1] w fun e w' => ∃ v2_ : Value, e = .returned (.tuple #[.agg #[.int .i64 r1, .int .i64 r2, v2_], .string r4]) ∧ Kd.Q k31 31 w' w.heap.size (fun _ => True) v2_ r3 ∧ Below w.heap.size w w' := by
 have hu34 := Tryz.underlying34
 have hu38 := Tryz.underlying38
 have hu31 := Tryz.underlying31
 have hu116 := Tryz.underlying116
 have HR0_2 := Aside0.mk hr0_2
 have HC0_2 := Aside0.mk hc0_2
 clear hr0_2 hc0_2
 have HB := Aside0.mk (Below.refl w.heap.size w)
 unfold spec_DeskLine.f at h
 have H := h
 clear h
 obtain ⟨t648, A3, H⟩ := sqD H
 go_enter Tryz.func43, Tryz.ntmps43
 go_upto_if 25 with (first | ((with_reducible refine gate_dst (N := 2) rfl ?_); refine sqBx w (sqB HB) (N := 2) (cs := #[.int .i64 a0_0, .int .i64 a0_1, .slice A0_2 l0_2.length c0_2]) (t := 34) ?_; intro gb646 hg w10 BK646 GE646 HB hb; clear hb hg) | ((with_reducible refine gate_dst (N := 4) rfl ?_); refine sqBx w (sqB1 HB GE646) (N := 4) (cs := #[.int .i64 0, .int .i64 0, .slice none 0 0]) (t := 34) ?_; intro gb647 hg w11 BK647 GE647 HB hb; obtain ⟨NB646_647, NB647_646⟩ := sqM hg BK646; replace BK646 := sqT BK646 hb; clear hb hg; have hnb12 := NB646_647.out; have hnc12 := NB647_646.out; obtain ⟨hcz13_0, hcz13_1, hcz13_2, hfz13_0, hfz13_1, hfz13_2⟩ := sqY3 BK646) | ((with_reducible refine gate_callee (f := 30) rfl ?_); refine sqC (some 24) Tryz.func30 #[.agg #[.int .i64 a0_0, .int .i64 a0_1, .slice A0_2 l0_2.length c0_2]] ?_; (with_reducible refine (spec_DeskOk.calls k a0_0 a0_1 _ _ l0_2 t648 _ ?side1 ?side2 A3.out).mono ?_); (case side1 => exact Z16); (case side2 => exact Z13); rintro e w14 ⟨rfl, hb⟩; refine ⟨_, rfl, ?_⟩; replace BK646 := sqT BK646 hb; replace BK647 := sqT BK647 hb; replace HB := sqS (sqB2 HB GE646 GE647) hb; (try clear hb); obtain ⟨hcz15_0, hcz15_1, hcz15_2, hfz15_0, hfz15_1, hfz15_2⟩ := sqY3 BK646; obtain ⟨hcz473_0, hcz473_1, hcz473_2, hfz473_0, hfz473_1, hfz473_2⟩ := sqY3 BK647))
 by_cases c4 : t648 = true
 ·subst c4
  rw [if_pos rfl] at H
  obtain ⟨⟨t649, t650, t651⟩, A5, H⟩ := sqD H
  try dsimp only at H
  obtain ⟨⟨t655, t656, t657⟩, A6, H⟩ := sqD H
  try dsimp only at H
  go_upto_if 34 with (first | ((with_reducible refine gate_callee (f := 56) rfl ?_); refine sqC (some 28) Tryz.func56 #[.agg #[.int .i64 a0_0, .int .i64 a0_1, .slice A0_2 l0_2.length c0_2]] ?_; (with_reducible refine (spec_l11Copy.calls a0_0 a0_1 _ _ l0_2 t649 t650 t651 _ ?side1 ?side2 A5.out).mono ?_); (case side1 => exact Z16); (case side2 => exact Z13); rintro e w16 ⟨v652, rfl, ho0, hb⟩; refine ⟨_, rfl, ?_⟩; have HO653 := sqL ho0 (sqB2 HB GE646 GE647); replace BK646 := sqT BK646 hb; replace BK647 := sqT BK647 hb; replace HB := sqS (sqB2 HB GE646 GE647) hb; (try clear hb); (try clear ho0)) | ((with_reducible refine gate_dst (N := 6) rfl ?_); refine sqBx w (sqB2 HB GE646 GE647) (N := 6) (cs := #[.int .i64 0, .int .i64 0, .slice none 0 0]) (t := 34) ?_; intro gb654 hg w17 BK654 GE654 HB hb; replace HO653 := sqU HO653 hb; obtain ⟨NB646_654, NB654_646⟩ := sqM hg BK646; replace BK646 := sqT BK646 hb; obtain ⟨NB647_654, NB654_647⟩ := sqM hg BK647; replace BK647 := sqT BK647 hb; clear hb hg; obtain ⟨Ao21, co21, eo21⟩ := Kd.R_slice HO653.out; subst eo21; have hnb18 := NB654_646.out; have hnc18 := NB646_654.out; have hnb19 := NB654_647.out; have hnc19 := NB647_654.out; obtain ⟨hcz20_0, hcz20_1, hcz20_2, hfz20_0, hfz20_1, hfz20_2⟩ := sqY3 BK654) | ((with_reducible refine gate_callee (f := 86) rfl ?_); refine sqC (some 31) Tryz.func86 #[.string a1] ?_; (with_reducible refine (spec_ReadDeed.calls k a1 t655 t656 t657 _ A6.out).mono ?_); rintro e w22 ⟨rfl, hb⟩; refine ⟨_, rfl, ?_⟩; replace HO653 := Aside0.mk (Kd.R_below (by (with_reducible repeat (first | apply Kd.R_alloc | apply Kd.R_drewN | apply Kd.R_drew)); exact (Kd.R_mono (Kd.R_far (p := ⟨gb654, 2, none⟩) (Kd.R_far (p := ⟨gb654, 1, none⟩) (Kd.R_far (p := ⟨gb654, 0, none⟩) (Kd.R_types HO653.out BK654.out (by decide)) (fun _ hk => hk.2) (.int .i64 t649)) (fun _ hk => hk.2) (.int .i64 t650)) (fun _ hk => hk.2) (.slice Ao21 t651.length co21)) (fun _ h_ => h_.1))) hb); replace BK646 := sqH NB646_654 BK646 hb; replace BK647 := sqH NB647_654 BK647 hb; replace BK654 := Aside0.mk (blk_below (g := gb654) (o := .cells #[.int .i64 t649, .int .i64 t650, .slice Ao21 t651.length co21] 34 (0, 0)) (Z62 BK654) hb); replace HB := sqS (sqB3 HB GE646 GE647 GE654) hb; (try clear hb)) | ((with_reducible refine gate_dst (N := 7) rfl ?_); refine sqBx w (sqB3 HB GE646 GE647 GE654) (N := 7) (cs := #[.int .i64 0, .string (⟨#[]⟩ : ByteArray)]) (t := 38) ?_; intro gb658 hg w23 BK658 GE658 HB hb; replace HO653 := sqU HO653 hb; obtain ⟨NB646_658, NB658_646⟩ := sqM hg BK646; replace BK646 := sqT BK646 hb; obtain ⟨NB647_658, NB658_647⟩ := sqM hg BK647; replace BK647 := sqT BK647 hb; obtain ⟨NB654_658, NB658_654⟩ := sqM hg BK654; replace BK654 := sqT BK654 hb; clear hb hg; have hnb24 := NB658_646.out; have hnc24 := NB646_658.out; have hnb25 := NB658_647.out; have hnc25 := NB647_658.out; have hnb26 := NB658_654.out; have hnc26 := NB654_658.out; obtain ⟨hcz27_0, hcz27_1, hfz27_0, hfz27_1⟩ := sqY2 BK658; obtain ⟨hcz28_0, hcz28_1, hcz28_2, hfz28_0, hfz28_1, hfz28_2⟩ := sqY3 BK646))
  by_cases c7 : t657 = true
  ·subst c7
   rw [if_pos rfl] at H
   obtain ⟨⟨t659, t660, t661, t664⟩, A8, H⟩ := sqD H
   try dsimp only at H
   go_upto_if 42 with (first | ((with_reducible refine gate_callee (f := 14) rfl ?_); refine sqC (some 38) Tryz.func14 #[.agg #[.int .i64 a0_0, .int .i64 a0_1, .slice A0_2 l0_2.length c0_2], .agg #[.int .i64 t655, .string t656]] ?_; (with_reducible refine (spec_DeskDo.calls k a0_0 a0_1 _ _ l0_2 t655 t656 t659 t660 t661 t664 _ ?side1 ?side2 A8.out).mono ?_); (case side1 => exact Kd.C_below HR0_2.out (sqB4 HB GE646 GE647 GE654 GE658)); (case side2 => exact Z13); rintro e w29 ⟨v662, rfl, ho0, hb⟩; refine ⟨_, rfl, ?_⟩; have HO663 := Aside0.mk (Kd.Q_lower (Kd.Q_new' ho0 (Kd.R_lt (Z63 HO653 BK658))) (below_size (sqB4 HB GE646 GE647 GE654 GE658))); replace HO653 := Aside0.mk (Kd.R_elder' (Z63 HO653 BK658) (Kd.Q_base ho0) hb); replace BK646 := sqH NB646_658 BK646 hb; replace BK647 := sqH NB647_658 BK647 hb; replace BK654 := sqH NB654_658 BK654 hb; replace BK658 := Aside0.mk (blk_below (g := gb658) (o := .cells #[.int .i64 t655, .string t656] 38 (0, 0)) (Z64 BK658) hb); replace HB := sqS (sqB4 HB GE646 GE647 GE654 GE658) hb; (try clear hb); (try clear ho0)) | ((with_reducible refine gate_dst (N := 9) rfl ?_); refine sqBx w (sqB4 HB GE646 GE647 GE654 GE658) (N := 9) (cs := #[.int .i64 0, .int .i64 0, .slice none 0 0]) (t := 34) ?_; intro gb665 hg w30 BK665 GE665 HB hb; replace HO653 := sqU HO653 hb; replace HO663 := Aside0.mk (Kd.Q_below (Z46 HO663) hb); obtain ⟨NB646_665, NB665_646⟩ := sqM hg BK646; replace BK646 := sqT BK646 hb; obtain ⟨NB647_665, NB665_647⟩ := sqM hg BK647; replace BK647 := sqT BK647 hb; obtain ⟨NB654_665, NB665_654⟩ := sqM hg BK654; replace BK654 := sqT BK654 hb; obtain ⟨NB658_665, NB665_658⟩ := sqM hg BK658; replace BK658 := sqT BK658 hb; clear hb hg; obtain ⟨Ao36, co36, eo36, _⟩ := Kd.Q_slice HO663.out; subst eo36; have hnb31 := NB665_646.out; have hnc31 := NB646_665.out; have hnb32 := NB665_647.out; have hnc32 := NB647_665.out; have hnb33 := NB665_654.out; have hnc33 := NB654_665.out; have hnb34 := NB665_658.out; have hnc34 := NB658_665.out; obtain ⟨hcz35_0, hcz35_1, hcz35_2, hfz35_0, hfz35_1, hfz35_2⟩ := sqY3 BK665; obtain ⟨hcz37_0, hcz37_1, hcz37_2, hfz37_0, hfz37_1, hfz37_2⟩ := sqY3 BK647))
   by_cases c9 : t664 = true
   ·subst c9
    rw [if_pos rfl] at H
    obtain ⟨rfl, rfl, rfl, rfl⟩ := sqO4 H
    go_wp2_with fail
    refine bodyPost_ret (results_ct rfl _ _ gb647 34 #[.int .i64 t659, .int .i64 t660, .slice Ao36 t661.length co36] (0, 0) _ rfl (Z65 NB647_665 BK647) Tryz.underlying34 rfl (by kernel_rfl)) rfl ?_
    exact ⟨_, Z6, by (with_reducible repeat (first | apply Kd.Q_alloc | apply Kd.Q_drewN | apply Kd.Q_drew)); exact Kd.Q_mono (Kd.Q_far (p := ⟨gb647, 2, none⟩) (Kd.Q_far (p := ⟨gb647, 1, none⟩) (Kd.Q_far (p := ⟨gb647, 0, none⟩) (Kd.Q_far (p := ⟨gb665, 2, none⟩) (Kd.Q_far (p := ⟨gb665, 1, none⟩) (Kd.Q_far (p := ⟨gb665, 0, none⟩) (Kd.Q_types (Kd.Q_types HO663.out BK665.out (by decide)) BK647.out (by decide)) (fun _ hk => hk.1.2) (.int .i64 t659)) (fun _ hk => hk.1.2) (.int .i64 t660)) (fun _ hk => hk.1.2) (.slice Ao36 t661.length co36)) (fun _ hk => hk.2) (.int .i64 t659)) (fun _ hk => hk.2) (.int .i64 t660)) (fun _ hk => hk.2) (.slice Ao36 t661.length co36)) (fun _ hk => trivial), Z49 GE646 GE647 GE654 GE658 GE665⟩
   replace c9 := Bool.eq_false_iff.mpr c9
   subst c9
   rw [if_neg sqF] at H
   obtain ⟨rfl, rfl, rfl, rfl⟩ := sqO4 H
   go_wp2_with fail
   refine bodyPost_ret (results_ct rfl _ _ gb647 34 #[.int .i64 t659, .int .i64 t660, .slice Ao36 t661.length co36] (0, 0) _ rfl (Z65 NB647_665 BK647) Tryz.underlying34 rfl (by kernel_rfl)) rfl ?_
   exact ⟨_, Z6, by (with_reducible repeat (first | apply Kd.Q_alloc | apply Kd.Q_drewN | apply Kd.Q_drew)); exact Kd.Q_mono (Kd.Q_far (p := ⟨gb647, 2, none⟩) (Kd.Q_far (p := ⟨gb647, 1, none⟩) (Kd.Q_far (p := ⟨gb647, 0, none⟩) (Kd.Q_far (p := ⟨gb665, 2, none⟩) (Kd.Q_far (p := ⟨gb665, 1, none⟩) (Kd.Q_far (p := ⟨gb665, 0, none⟩) (Kd.Q_types (Kd.Q_types HO663.out BK665.out (by decide)) BK647.out (by decide)) (fun _ hk => hk.1.2) (.int .i64 t659)) (fun _ hk => hk.1.2) (.int .i64 t660)) (fun _ hk => hk.1.2) (.slice Ao36 t661.length co36)) (fun _ hk => hk.2) (.int .i64 t659)) (fun _ hk => hk.2) (.int .i64 t660)) (fun _ hk => hk.2) (.slice Ao36 t661.length co36)) (fun _ hk => trivial), Z49 GE646 GE647 GE654 GE658 GE665⟩
  replace c7 := Bool.eq_false_iff.mpr c7
  subst c7
  rw [if_neg sqF] at H
  go_upto_if 48 with (first | ((with_reducible refine gate_dst (N := 11) rfl ?_); refine sqBx w (sqB4 HB GE646 GE647 GE654 GE658) (N := 11) (cs := #[.int .i64 0, .int .i64 0]) (t := 31) ?_; intro gb666 hg w87 BK666 GE666 HB hb; replace HO653 := Aside0.mk (Kd.R_below (Kd.R_elderB (Z63 HO653 BK658) gb666 (Nat.le_of_eq hg.symm)) hb); have NB646_666 := Aside0.mk ((Z112 NB646_658 BK646 : gb646 ≠ gb666)); have NB666_646 := Aside0.mk ((Z113 NB646_658 BK646 : gb666 ≠ gb646)); replace BK646 := sqH NB646_658 BK646 hb; have NB647_666 := Aside0.mk ((Z114 NB647_658 BK647 : gb647 ≠ gb666)); have NB666_647 := Aside0.mk ((Z115 NB647_658 BK647 : gb666 ≠ gb647)); replace BK647 := sqH NB647_658 BK647 hb; have NB654_666 := Aside0.mk ((by rw [hg]; exact Nat.ne_of_lt (blk_lt (g := gb654) (o := .cells #[.int .i64 t649, .int .i64 t650, .slice Ao21 t651.length co21] 34 (0, 0)) (Z10 NB654_658 BK654)) : gb654 ≠ gb666)); have NB666_654 := Aside0.mk ((by rw [hg]; exact Nat.ne_of_gt (blk_lt (g := gb654) (o := .cells #[.int .i64 t649, .int .i64 t650, .slice Ao21 t651.length co21] 34 (0, 0)) (Z10 NB654_658 BK654)) : gb666 ≠ gb654)); replace BK654 := sqH NB654_658 BK654 hb; have NB658_666 := Aside0.mk ((Z116 BK658 : gb658 ≠ gb666)); have NB666_658 := Aside0.mk ((Z117 BK658 : gb666 ≠ gb658)); replace BK658 := Aside0.mk (blk_below (g := gb658) (o := .cells #[.int .i64 t655, .string t656] 38 (0, 0)) (Z64 BK658) hb); clear hb hg; have hnb88 := NB666_646.out; have hnc88 := NB646_666.out; have hnb89 := NB666_647.out; have hnc89 := NB647_666.out; have hnb90 := NB666_654.out; have hnc90 := NB654_666.out; have hnb91 := NB666_658.out; have hnc91 := NB658_666.out; obtain ⟨hcz92_0, hcz92_1, hfz92_0, hfz92_1⟩ := sqY2 BK666))
  by_cases c66 : a1.toList = ([116, 101, 120, 116] : List UInt8)
  ·rw [if_pos c66] at H
   have c66b0 : (a1.toList == ([116, 101, 120, 116] : List UInt8)) = true := beq_iff_eq.mpr c66
   have c66b1 : (a1.toList != ([116, 101, 120, 116] : List UInt8)) = false := bne_eq_false_iff_eq.mpr c66
   (first | rw [c66b0] | rw [c66b1] | simp only [i64_w, i32_w, c66b0, c66b1] | skip)
   clear c66
   obtain ⟨t667, A67, H⟩ := sqD H
   obtain ⟨rfl, rfl, rfl, rfl⟩ := sqO4 H
   try go_wp2_with fail
   obtain ⟨w93, hw_⟩ : ∃ w_, (w87.setCell ⟨gb666, 0, none⟩ (.int .i64 a0_0)).setCell ⟨gb666, 1, none⟩ (.int .i64 a0_1) = w_ := ⟨_, rfl⟩
   replace HO653 : Aside0 (Kd.R k31 31 w93 w.heap.size (fun k_ => k_ ≠ gb666) (.slice Ao21 t651.length co21) t651) := by rw [← hw_]; exact ⟨Z66 HO653⟩
   replace BK646 := sqJ hw_ NB646_666 BK646
   replace BK647 := sqJ hw_ NB647_666 BK647
   replace BK654 := sqJ hw_ NB654_666 BK654
   replace BK658 := sqJ hw_ NB658_666 BK658
   replace BK666 : Aside0 (w93.heap[gb666]? = some (.cells #[.int .i64 a0_0, .int .i64 a0_1] 31 (0, 0))) := by rw [← hw_]; exact ⟨Z5 BK666⟩
   replace HB : Aside0 (Below w.heap.size w w93) := by rw [← hw_]; exact ⟨Z49 GE646 GE647 GE654 GE658 GE666⟩
   rw [hw_]; clear hw_
   replace HO653 := Aside0.mk (Kd.R_drew HO653.out)
   replace BK646 := Aside0.mk (blk_drew BK646.out)
   replace BK647 := Aside0.mk (blk_drew BK647.out)
   replace BK654 := Aside0.mk (blk_drew BK654.out)
   replace BK658 := Aside0.mk (blk_drew BK658.out)
   replace BK666 := Aside0.mk (blk_drew BK666.out)
   replace HB := Aside0.mk (below_drew1 HB.out)
   refine start_ (n := 5) (S := fun w' => w'.cell? ⟨gb654, 0, none⟩ = some (.int .i64 t649) ∧ w'.cell? ⟨gb654, 1, none⟩ = some (.int .i64 t650) ∧ w'.cell? ⟨gb654, 2, none⟩ = some (.slice Ao21 t651.length co21) ∧ w'.cell? ⟨gb666, 0, none⟩ = some (.int .i64 a0_0) ∧ w'.cell? ⟨gb666, 1, none⟩ = some (.int .i64 a0_1)) (ds := []) #[false, false, false, false, false] (by kernel_rfl) rfl rfl ⟨(blk_cell BK654.out 0).trans rfl, (blk_cell BK654.out 1).trans rfl, (blk_cell BK654.out 2).trans rfl, (blk_cell BK666.out 0).trans rfl, (blk_cell BK666.out 1).trans rfl⟩ (fun hHeld => ?_)
   generalize w93.drew = w94 at HO653 BK646 BK647 BK654 BK658 BK666 HB hHeld ⊢
   refine sqQk (i := 0) (N := some 50) hHeld (h := ?_)
   refine sqQk (i := 1) (N := some 51) hHeld (h := ?_)
   refine one_ (i := 2) (N := some 52) #[true, true, true, false, false] rfl rfl (by kernel_rfl) (by decide) (fun K hK => ?_)
   refine goes_ Tryz.func89 (by kernel_rfl) rfl #[.agg #[.int .i64 a0_0, .int .i64 a0_1]] (by rfl) rfl rfl sqA ?_
   with_reducible refine (spec_FractionText.calls k a0_0 a0_1 t667 _ A67.out).mono ?_
   rintro e w95 ⟨rfl, hb⟩
   refine ⟨_, rfl, ?_⟩
   replace HO653 := sqU HO653 hb
   replace BK646 := sqT BK646 hb
   replace BK647 := sqT BK647 hb
   replace BK654 := sqT BK654 hb
   replace BK658 := sqT BK658 hb
   replace BK666 := sqT BK666 hb
   replace HB := Aside0.mk (below_step (Z49 GE646 GE647 GE654 GE658 GE666) hb)
   (try clear hb)
   (try clear hb2)
   (try clear hk)
   (try clear hi)
   refine hK.out _ _ ⟨(blk_cell BK654.out 0).trans rfl, (blk_cell BK654.out 1).trans rfl, (blk_cell BK654.out 2).trans rfl, (blk_cell BK666.out 0).trans rfl, (blk_cell BK666.out 1).trans rfl⟩ (fun hHeld => ?_)
   clear hK K
   refine sqN (some 52) ?_
   refine one_ (i := 3) (N := none) #[true, true, true, true, false] rfl rfl (by kernel_rfl) (by decide) (fun K hK => ?_)
   have hs96 : w95.cell? ⟨gb647, 0, none⟩ = some (.int .i64 0) := (blk_cell BK647.out 0).trans rfl
   have hfs96 := blk_frozen BK647.out 0
   have hns96_0 := NB646_647.out
   have hns96_2 := NB654_647.out
   have hns96_3 := NB658_647.out
   have hns96_4 := NB666_647.out
   have hms96_0 := NB647_646.out
   have hms96_2 := NB647_654.out
   have hms96_3 := NB647_658.out
   have hms96_4 := NB647_666.out
   have hs97 : w95.cell? ⟨gb647, 1, none⟩ = some (.int .i64 0) := (blk_cell BK647.out 1).trans rfl
   have hfs97 := blk_frozen BK647.out 1
   have hs98 : w95.cell? ⟨gb647, 2, none⟩ = some (.slice none 0 0) := (blk_cell BK647.out 2).trans rfl
   have hfs98 := blk_frozen BK647.out 2
   refine skip_ (w1 := ?_) (by rfl) rfl ?_ ?_
   rotate_left
   ·go_simp
    rfl
   refine hK.out _ _ ⟨((cell_far (p := ⟨gb647, _, none⟩) NB654_647.out _).trans (((cell_far (p := ⟨gb647, _, none⟩) NB654_647.out _).trans (((cell_far (p := ⟨gb647, _, none⟩) NB654_647.out _).trans (hHeld.1)))))), ((cell_far (p := ⟨gb647, _, none⟩) NB654_647.out _).trans (((cell_far (p := ⟨gb647, _, none⟩) NB654_647.out _).trans (((cell_far (p := ⟨gb647, _, none⟩) NB654_647.out _).trans (hHeld.2.1)))))), ((cell_far (p := ⟨gb647, _, none⟩) NB654_647.out _).trans (((cell_far (p := ⟨gb647, _, none⟩) NB654_647.out _).trans (((cell_far (p := ⟨gb647, _, none⟩) NB654_647.out _).trans (hHeld.2.2.1)))))), ((cell_far (p := ⟨gb647, _, none⟩) NB666_647.out _).trans (((cell_far (p := ⟨gb647, _, none⟩) NB666_647.out _).trans (((cell_far (p := ⟨gb647, _, none⟩) NB666_647.out _).trans (hHeld.2.2.2.1)))))), ((cell_far (p := ⟨gb647, _, none⟩) NB666_647.out _).trans (((cell_far (p := ⟨gb647, _, none⟩) NB666_647.out _).trans (((cell_far (p := ⟨gb647, _, none⟩) NB666_647.out _).trans (hHeld.2.2.2.2))))))⟩ (fun hHeld => ?_)
   clear hK K
   refine sqPk (i := 4) (N := some 5) (h := ?_)
   refine done_ (by kernel_rfl) ?_
   try go_wp2
   refine bodyPost_ret (results_ct rfl _ _ gb647 34 #[.int .i64 t649, .int .i64 t650, .slice Ao21 t651.length co21] (0, 0) _ rfl (Z62 BK647) Tryz.underlying34 rfl (by kernel_rfl)) rfl ?_
   exact ⟨_, Z6, Kd.Q_of_R (by (with_reducible repeat (first | apply Kd.R_alloc | apply Kd.R_drewN | apply Kd.R_drew)); exact Kd.R_mono (Kd.R_far (p := ⟨gb647, 2, none⟩) (Kd.R_far (p := ⟨gb647, 1, none⟩) (Kd.R_far (p := ⟨gb647, 0, none⟩) (Kd.R_types HO653.out BK647.out (by decide)) (fun _ hk => hk.2) (.int .i64 t649)) (fun _ hk => hk.2) (.int .i64 t650)) (fun _ hk => hk.2) (.slice Ao21 t651.length co21)) (fun _ hk => trivial)), Z49 GE646 GE647 GE654 GE658 GE666⟩
  rw [if_neg c66] at H
  have c66b0 : (a1.toList == ([116, 101, 120, 116] : List UInt8)) = false := beq_eq_false_iff_ne.mpr c66
  have c66b1 : (a1.toList != ([116, 101, 120, 116] : List UInt8)) = true := bne_iff_ne.mpr c66
  (first | rw [c66b0] | rw [c66b1] | simp only [i64_w, i32_w, c66b0, c66b1] | skip)
  go_upto_if 53 with fail
  by_cases c99 : a1.toList = ([109, 111, 118, 101, 115] : List UInt8)
  ·rw [if_pos c99] at H
   have c99b0 : (a1.toList == ([109, 111, 118, 101, 115] : List UInt8)) = true := beq_iff_eq.mpr c99
   have c99b1 : (a1.toList != ([109, 111, 118, 101, 115] : List UInt8)) = false := bne_eq_false_iff_eq.mpr c99
   (first | rw [c99b0] | rw [c99b1] | simp only [i64_w, i32_w, c99b0, c99b1] | skip)
   clear c99
   obtain ⟨⟨t668, t669⟩, A100, H⟩ := sqD H
   try dsimp only at H
   go_upto_if 61 with (first | ((with_reducible refine gate_callee (f := 90) rfl ?_); refine sqC (some 57) Tryz.func90 #[.agg #[.int .i64 a0_0, .int .i64 a0_1]] ?_; (with_reducible refine (spec_UntiedOf.calls k a0_0 a0_1 t668 t669 _ A100.out).mono ?_); rintro e w128 ⟨rfl, hb⟩; refine ⟨_, rfl, ?_⟩; replace HO653 := Aside0.mk (Kd.R_below (Z67 HO653) hb); replace BK646 := sqH NB646_666 BK646 hb; replace BK647 := sqH NB647_666 BK647 hb; replace BK654 := sqH NB654_666 BK654 hb; replace BK658 := sqH NB658_666 BK658 hb; replace BK666 := Aside0.mk (blk_below (g := gb666) (o := .cells #[.int .i64 a0_0, .int .i64 a0_1] 31 (0, 0)) (Z5 BK666) hb); replace HB := Aside0.mk (below_step (Z49 GE646 GE647 GE654 GE658 GE666) hb); (try clear hb); obtain ⟨hcz129_0, hcz129_1, hcz129_2, hfz129_0, hfz129_1, hfz129_2⟩ := sqY3 BK654; obtain ⟨hcz130_0, hcz130_1, hcz130_2, hfz130_0, hfz130_1, hfz130_2⟩ := sqY3 BK647))
   by_cases c101 : t669 = true
   ·subst c101
    rw [if_pos rfl] at H
    obtain ⟨c102, H⟩ := sqI H
    have c102b0 := eq_true c102
    have c102b1 : decide (1 + t668.size ≤ 9223372036854775807) = true := decide_eq_true c102
    try have c102b2 : (9223372036854775807 < 1 + t668.size) = False := eq_false (Nat.not_lt.2 c102)
    obtain ⟨rfl, rfl, rfl, rfl⟩ := sqO4 H
    go_wp2_with fail
    refine bodyPost_ret (results_ct rfl _ _ gb647 34 #[.int .i64 t649, .int .i64 t650, .slice Ao21 t651.length co21] (0, 0) _ rfl (Z62 BK647) Tryz.underlying34 rfl (by kernel_rfl)) rfl ?_
    exact ⟨_, Z6, Kd.Q_of_R (by (with_reducible repeat (first | apply Kd.R_alloc | apply Kd.R_drewN | apply Kd.R_drew)); exact Kd.R_mono (Kd.R_far (p := ⟨gb647, 2, none⟩) (Kd.R_far (p := ⟨gb647, 1, none⟩) (Kd.R_far (p := ⟨gb647, 0, none⟩) (Kd.R_types HO653.out BK647.out (by decide)) (fun _ hk => hk.2) (.int .i64 t649)) (fun _ hk => hk.2) (.int .i64 t650)) (fun _ hk => hk.2) (.slice Ao21 t651.length co21)) (fun _ hk => trivial)), Z49 GE646 GE647 GE654 GE658 GE666⟩
   replace c101 := Bool.eq_false_iff.mpr c101
   subst c101
   rw [if_neg sqF] at H
   obtain ⟨rfl, rfl, rfl, rfl⟩ := sqO4 H
   go_wp2_with fail
   refine bodyPost_ret (results_ct rfl _ _ gb647 34 #[.int .i64 t649, .int .i64 t650, .slice Ao21 t651.length co21] (0, 0) _ rfl (Z62 BK647) Tryz.underlying34 rfl (by kernel_rfl)) rfl ?_
   exact ⟨_, Z6, Kd.Q_of_R (by (with_reducible repeat (first | apply Kd.R_alloc | apply Kd.R_drewN | apply Kd.R_drew)); exact Kd.R_mono (Kd.R_far (p := ⟨gb647, 2, none⟩) (Kd.R_far (p := ⟨gb647, 1, none⟩) (Kd.R_far (p := ⟨gb647, 0, none⟩) (Kd.R_types HO653.out BK647.out (by decide)) (fun _ hk => hk.2) (.int .i64 t649)) (fun _ hk => hk.2) (.int .i64 t650)) (fun _ hk => hk.2) (.slice Ao21 t651.length co21)) (fun _ hk => trivial)), Z49 GE646 GE647 GE654 GE658 GE666⟩
  rw [if_neg c99] at H
  have c99b0 : (a1.toList == ([109, 111, 118, 101, 115] : List UInt8)) = false := beq_eq_false_iff_ne.mpr c99
  have c99b1 : (a1.toList != ([109, 111, 118, 101, 115] : List UInt8)) = true := bne_iff_ne.mpr c99
  (first | rw [c99b0] | rw [c99b1] | simp only [i64_w, i32_w, c99b0, c99b1] | skip)
  go_upto_if 66 with fail
  by_cases c159 : a1.toList = ([116, 101, 114, 109, 115] : List UInt8)
  ·rw [if_pos c159] at H
   have c159b0 : (a1.toList == ([116, 101, 114, 109, 115] : List UInt8)) = true := beq_iff_eq.mpr c159
   have c159b1 : (a1.toList != ([116, 101, 114, 109, 115] : List UInt8)) = false := bne_eq_false_iff_eq.mpr c159
   (first | rw [c159b0] | rw [c159b1] | simp only [i64_w, i32_w, c159b0, c159b1] | skip)
   clear c159
   obtain ⟨⟨t670, t673⟩, A160, H⟩ := sqD H
   try dsimp only at H
   obtain ⟨t674, A161, H⟩ := sqD H
   obtain ⟨rfl, rfl, rfl, rfl⟩ := sqO4 H
   try go_wp2_with (first | ((with_reducible refine gate_callee (f := 91) rfl ?_); refine sqC (some 70) Tryz.func91 #[.agg #[.int .i64 a0_0, .int .i64 a0_1]] ?_; (with_reducible refine (spec_TermsOf.calls k a0_0 a0_1 t670 t673 _ A160.out).mono ?_); rintro e w187 ⟨v671, rfl, ho0, hb⟩; refine ⟨_, rfl, ?_⟩; replace HO653 := Aside0.mk (Kd.R_below (Z67 HO653) hb); have HO672 := Aside0.mk (Kd.R_lower ho0 (below_size (Z49 GE646 GE647 GE654 GE658 GE666))); replace BK646 := sqH NB646_666 BK646 hb; replace BK647 := sqH NB647_666 BK647 hb; replace BK654 := sqH NB654_666 BK654 hb; replace BK658 := sqH NB658_666 BK658 hb; replace BK666 := Aside0.mk (blk_below (g := gb666) (o := .cells #[.int .i64 a0_0, .int .i64 a0_1] 31 (0, 0)) (Z5 BK666) hb); replace HB := Aside0.mk (below_step (Z49 GE646 GE647 GE654 GE658 GE666) hb); (try clear hb); (try clear ho0)))
   replace HO653 := Aside0.mk (Kd.R_drew HO653.out)
   replace HO672 := Aside0.mk (Kd.R_drew HO672.out)
   replace BK646 := Aside0.mk (blk_drew BK646.out)
   replace BK647 := Aside0.mk (blk_drew BK647.out)
   replace BK654 := Aside0.mk (blk_drew BK654.out)
   replace BK658 := Aside0.mk (blk_drew BK658.out)
   replace BK666 := Aside0.mk (blk_drew BK666.out)
   replace HB := Aside0.mk (below_drew1 HB.out)
   obtain ⟨Ao189, co189, eo189⟩ := Kd.R_slice HO672.out
   (first | subst eo189 | (injection eo189 with f1_ f2_ f3_; have f4_ := f1_.symm; have f5_ := f3_.symm; clear f1_ f2_ f3_; subst f4_; subst f5_))
   refine start_ (n := 5) (S := fun w' => w'.cell? ⟨gb654, 0, none⟩ = some (.int .i64 t649) ∧ w'.cell? ⟨gb654, 1, none⟩ = some (.int .i64 t650) ∧ w'.cell? ⟨gb654, 2, none⟩ = some (.slice Ao21 t651.length co21)) (ds := []) #[false, false, false, false, false] (by kernel_rfl) rfl rfl ⟨(blk_cell BK654.out 0).trans rfl, (blk_cell BK654.out 1).trans rfl, (blk_cell BK654.out 2).trans rfl⟩ (fun hHeld => ?_)
   generalize w187.drew = w188 at HO653 HO672 BK646 BK647 BK654 BK658 BK666 HB hHeld ⊢
   refine sqPk (i := 1) (N := some 74) (h := ?_)
   refine sqQk (i := 0) (N := some 73) hHeld (h := ?_)
   refine one_ (i := 2) (N := some 75) #[true, true, true, false, false] rfl rfl (by kernel_rfl) (by decide) (fun K hK => ?_)
   refine goes_ Tryz.func92 (by kernel_rfl) rfl #[.slice Ao189 t670.length co189] (by rfl) rfl rfl sqA ?_
   with_reducible refine (spec_l11Row.calls k _ _ t670 t674 _ ?side1 ?side2 A161.out).mono ?_
   (case side1 => exact Z8 HO672)
   (case side2 => exact Z9 HO672)
   rintro e w190 ⟨rfl, hb⟩
   refine ⟨_, rfl, ?_⟩
   replace HO653 := sqU HO653 hb
   replace HO672 := sqU HO672 hb
   replace BK646 := sqT BK646 hb
   replace BK647 := sqT BK647 hb
   replace BK654 := sqT BK654 hb
   replace BK658 := sqT BK658 hb
   replace BK666 := sqT BK666 hb
   replace HB := Aside0.mk (below_step (Z49 GE646 GE647 GE654 GE658 GE666) hb)
   (try clear hb)
   (try clear hb2)
   (try clear hk)
   (try clear hi)
   refine hK.out _ _ ⟨(blk_cell BK654.out 0).trans rfl, (blk_cell BK654.out 1).trans rfl, (blk_cell BK654.out 2).trans rfl⟩ (fun hHeld => ?_)
   clear hK K
   refine sqN (some 75) ?_
   refine one_ (i := 3) (N := none) #[true, true, true, true, false] rfl rfl (by kernel_rfl) (by decide) (fun K hK => ?_)
   have hs191 : w190.cell? ⟨gb647, 0, none⟩ = some (.int .i64 0) := (blk_cell BK647.out 0).trans rfl
   have hfs191 := blk_frozen BK647.out 0
   have hns191_0 := NB646_647.out
   have hns191_2 := NB654_647.out
   have hns191_3 := NB658_647.out
   have hns191_4 := NB666_647.out
   have hms191_0 := NB647_646.out
   have hms191_2 := NB647_654.out
   have hms191_3 := NB647_658.out
   have hms191_4 := NB647_666.out
   have hs192 : w190.cell? ⟨gb647, 1, none⟩ = some (.int .i64 0) := (blk_cell BK647.out 1).trans rfl
   have hfs192 := blk_frozen BK647.out 1
   have hs193 : w190.cell? ⟨gb647, 2, none⟩ = some (.slice none 0 0) := (blk_cell BK647.out 2).trans rfl
   have hfs193 := blk_frozen BK647.out 2
   refine skip_ (w1 := ?_) (by rfl) rfl ?_ ?_
   rotate_left
   ·go_simp
    rfl
   refine hK.out _ _ ⟨((cell_far (p := ⟨gb647, _, none⟩) NB654_647.out _).trans (((cell_far (p := ⟨gb647, _, none⟩) NB654_647.out _).trans (((cell_far (p := ⟨gb647, _, none⟩) NB654_647.out _).trans (hHeld.1)))))), ((cell_far (p := ⟨gb647, _, none⟩) NB654_647.out _).trans (((cell_far (p := ⟨gb647, _, none⟩) NB654_647.out _).trans (((cell_far (p := ⟨gb647, _, none⟩) NB654_647.out _).trans (hHeld.2.1)))))), ((cell_far (p := ⟨gb647, _, none⟩) NB654_647.out _).trans (((cell_far (p := ⟨gb647, _, none⟩) NB654_647.out _).trans (((cell_far (p := ⟨gb647, _, none⟩) NB654_647.out _).trans (hHeld.2.2))))))⟩ (fun hHeld => ?_)
   clear hK K
   refine sqPk (i := 4) (N := some 5) (h := ?_)
   refine done_ (by kernel_rfl) ?_
   try go_wp2
   refine bodyPost_ret (results_ct rfl _ _ gb647 34 #[.int .i64 t649, .int .i64 t650, .slice Ao21 t651.length co21] (0, 0) _ rfl (Z62 BK647) Tryz.underlying34 rfl (by kernel_rfl)) rfl ?_
   exact ⟨_, Z6, Kd.Q_of_R (by (with_reducible repeat (first | apply Kd.R_alloc | apply Kd.R_drewN | apply Kd.R_drew)); exact Kd.R_mono (Kd.R_far (p := ⟨gb647, 2, none⟩) (Kd.R_far (p := ⟨gb647, 1, none⟩) (Kd.R_far (p := ⟨gb647, 0, none⟩) (Kd.R_types HO653.out BK647.out (by decide)) (fun _ hk => hk.2) (.int .i64 t649)) (fun _ hk => hk.2) (.int .i64 t650)) (fun _ hk => hk.2) (.slice Ao21 t651.length co21)) (fun _ hk => trivial)), Z49 GE646 GE647 GE654 GE658 GE666⟩
  rw [if_neg c159] at H
  have c159b0 : (a1.toList == ([116, 101, 114, 109, 115] : List UInt8)) = false := beq_eq_false_iff_ne.mpr c159
  have c159b1 : (a1.toList != ([116, 101, 114, 109, 115] : List UInt8)) = true := bne_iff_ne.mpr c159
  (first | rw [c159b0] | rw [c159b1] | simp only [i64_w, i32_w, c159b0, c159b1] | skip)
  go_upto_if 76 with fail
  by_cases c194 : a1.toList = ([99, 114, 111, 115, 115, 105, 110, 103, 115] : List UInt8)
  ·rw [if_pos c194] at H
   have c194b0 : (a1.toList == ([99, 114, 111, 115, 115, 105, 110, 103, 115] : List UInt8)) = true := beq_iff_eq.mpr c194
   have c194b1 : (a1.toList != ([99, 114, 111, 115, 115, 105, 110, 103, 115] : List UInt8)) = false := bne_eq_false_iff_eq.mpr c194
   (first | rw [c194b0] | rw [c194b1] | simp only [i64_w, i32_w, c194b0, c194b1] | skip)
   clear c194
   obtain ⟨t675, A195, H⟩ := sqD H
   obtain ⟨t676, A196, H⟩ := sqD H
   obtain ⟨rfl, rfl, rfl, rfl⟩ := sqO4 H
   try go_wp2_with fail
   obtain ⟨w222, hw_⟩ : ∃ w_, (w87.setCell ⟨gb666, 0, none⟩ (.int .i64 a0_0)).setCell ⟨gb666, 1, none⟩ (.int .i64 a0_1) = w_ := ⟨_, rfl⟩
   replace HO653 : Aside0 (Kd.R k31 31 w222 w.heap.size (fun k_ => k_ ≠ gb666) (.slice Ao21 t651.length co21) t651) := by rw [← hw_]; exact ⟨Z66 HO653⟩
   replace BK646 := sqJ hw_ NB646_666 BK646
   replace BK647 := sqJ hw_ NB647_666 BK647
   replace BK654 := sqJ hw_ NB654_666 BK654
   replace BK658 := sqJ hw_ NB658_666 BK658
   replace BK666 : Aside0 (w222.heap[gb666]? = some (.cells #[.int .i64 a0_0, .int .i64 a0_1] 31 (0, 0))) := by rw [← hw_]; exact ⟨Z5 BK666⟩
   replace HB : Aside0 (Below w.heap.size w w222) := by rw [← hw_]; exact ⟨Z49 GE646 GE647 GE654 GE658 GE666⟩
   rw [hw_]; clear hw_
   replace HO653 := Aside0.mk (Kd.R_drew HO653.out)
   replace BK646 := Aside0.mk (blk_drew BK646.out)
   replace BK647 := Aside0.mk (blk_drew BK647.out)
   replace BK654 := Aside0.mk (blk_drew BK654.out)
   replace BK658 := Aside0.mk (blk_drew BK658.out)
   replace BK666 := Aside0.mk (blk_drew BK666.out)
   replace HB := Aside0.mk (below_drew1 HB.out)
   refine start_ (n := 6) (S := fun w' => w'.cell? ⟨gb654, 0, none⟩ = some (.int .i64 t649) ∧ w'.cell? ⟨gb654, 1, none⟩ = some (.int .i64 t650) ∧ w'.cell? ⟨gb654, 2, none⟩ = some (.slice Ao21 t651.length co21) ∧ w'.cell? ⟨gb666, 0, none⟩ = some (.int .i64 a0_0) ∧ w'.cell? ⟨gb666, 1, none⟩ = some (.int .i64 a0_1)) (ds := []) #[false, false, false, false, false, false] (by kernel_rfl) rfl rfl ⟨(blk_cell BK654.out 0).trans rfl, (blk_cell BK654.out 1).trans rfl, (blk_cell BK654.out 2).trans rfl, (blk_cell BK666.out 0).trans rfl, (blk_cell BK666.out 1).trans rfl⟩ (fun hHeld => ?_)
   generalize w222.drew = w223 at HO653 BK646 BK647 BK654 BK658 BK666 HB hHeld ⊢
   refine sqQk (i := 0) (N := some 78) hHeld (h := ?_)
   refine sqQk (i := 1) (N := some 79) hHeld (h := ?_)
   refine one_ (i := 2) (N := some 80) #[true, true, true, false, false, false] rfl rfl (by kernel_rfl) (by decide) (fun K hK => ?_)
   refine goes_ Tryz.func94 (by kernel_rfl) rfl #[.agg #[.int .i64 a0_0, .int .i64 a0_1]] (by rfl) rfl rfl sqA ?_
   with_reducible refine (spec_CrossingsOf.calls k a0_0 a0_1 t675 _ A195.out).mono ?_
   rintro e w224 ⟨rfl, hb⟩
   refine ⟨_, rfl, ?_⟩
   replace HO653 := sqU HO653 hb
   replace BK646 := sqT BK646 hb
   replace BK647 := sqT BK647 hb
   replace BK654 := sqT BK654 hb
   replace BK658 := sqT BK658 hb
   replace BK666 := sqT BK666 hb
   replace HB := Aside0.mk (below_step (Z49 GE646 GE647 GE654 GE658 GE666) hb)
   (try clear hb)
   (try clear hb2)
   (try clear hk)
   (try clear hi)
   refine hK.out _ _ ⟨(blk_cell BK654.out 0).trans rfl, (blk_cell BK654.out 1).trans rfl, (blk_cell BK654.out 2).trans rfl, (blk_cell BK666.out 0).trans rfl, (blk_cell BK666.out 1).trans rfl⟩ (fun hHeld => ?_)
   clear hK K
   refine sqN (some 80) ?_
   refine one_ (i := 3) (N := some 81) #[true, true, true, true, false, false] rfl rfl (by kernel_rfl) (by decide) (fun K hK => ?_)
   refine goes_ Tryz.func93 (by kernel_rfl) rfl #[.int .i64 t675] (by rfl) rfl rfl sqA ?_
   with_reducible refine (spec_l1Number.calls k t675 t676 _ A196.out).mono ?_
   rintro e w225 ⟨rfl, hb⟩
   refine ⟨_, rfl, ?_⟩
   replace HO653 := sqU HO653 hb
   replace BK646 := sqT BK646 hb
   replace BK647 := sqT BK647 hb
   replace BK654 := sqT BK654 hb
   replace BK658 := sqT BK658 hb
   replace BK666 := sqT BK666 hb
   replace HB := Aside0.mk (below_step (Z49 GE646 GE647 GE654 GE658 GE666) hb)
   (try clear hb)
   (try clear hb2)
   (try clear hk)
   (try clear hi)
   refine hK.out _ _ ⟨(blk_cell BK654.out 0).trans rfl, (blk_cell BK654.out 1).trans rfl, (blk_cell BK654.out 2).trans rfl, (blk_cell BK666.out 0).trans rfl, (blk_cell BK666.out 1).trans rfl⟩ (fun hHeld => ?_)
   clear hK K
   refine sqN (some 81) ?_
   refine one_ (i := 4) (N := none) #[true, true, true, true, true, false] rfl rfl (by kernel_rfl) (by decide) (fun K hK => ?_)
   have hs226 : w225.cell? ⟨gb647, 0, none⟩ = some (.int .i64 0) := (blk_cell BK647.out 0).trans rfl
   have hfs226 := blk_frozen BK647.out 0
   have hns226_0 := NB646_647.out
   have hns226_2 := NB654_647.out
   have hns226_3 := NB658_647.out
   have hns226_4 := NB666_647.out
   have hms226_0 := NB647_646.out
   have hms226_2 := NB647_654.out
   have hms226_3 := NB647_658.out
   have hms226_4 := NB647_666.out
   have hs227 : w225.cell? ⟨gb647, 1, none⟩ = some (.int .i64 0) := (blk_cell BK647.out 1).trans rfl
   have hfs227 := blk_frozen BK647.out 1
   have hs228 : w225.cell? ⟨gb647, 2, none⟩ = some (.slice none 0 0) := (blk_cell BK647.out 2).trans rfl
   have hfs228 := blk_frozen BK647.out 2
   refine skip_ (w1 := ?_) (by rfl) rfl ?_ ?_
   rotate_left
   ·go_simp
    rfl
   refine hK.out _ _ ⟨((cell_far (p := ⟨gb647, _, none⟩) NB654_647.out _).trans (((cell_far (p := ⟨gb647, _, none⟩) NB654_647.out _).trans (((cell_far (p := ⟨gb647, _, none⟩) NB654_647.out _).trans (hHeld.1)))))), ((cell_far (p := ⟨gb647, _, none⟩) NB654_647.out _).trans (((cell_far (p := ⟨gb647, _, none⟩) NB654_647.out _).trans (((cell_far (p := ⟨gb647, _, none⟩) NB654_647.out _).trans (hHeld.2.1)))))), ((cell_far (p := ⟨gb647, _, none⟩) NB654_647.out _).trans (((cell_far (p := ⟨gb647, _, none⟩) NB654_647.out _).trans (((cell_far (p := ⟨gb647, _, none⟩) NB654_647.out _).trans (hHeld.2.2.1)))))), ((cell_far (p := ⟨gb647, _, none⟩) NB666_647.out _).trans (((cell_far (p := ⟨gb647, _, none⟩) NB666_647.out _).trans (((cell_far (p := ⟨gb647, _, none⟩) NB666_647.out _).trans (hHeld.2.2.2.1)))))), ((cell_far (p := ⟨gb647, _, none⟩) NB666_647.out _).trans (((cell_far (p := ⟨gb647, _, none⟩) NB666_647.out _).trans (((cell_far (p := ⟨gb647, _, none⟩) NB666_647.out _).trans (hHeld.2.2.2.2))))))⟩ (fun hHeld => ?_)
   clear hK K
   refine sqPk (i := 5) (N := some 5) (h := ?_)
   refine done_ (by kernel_rfl) ?_
   try go_wp2
   refine bodyPost_ret (results_ct rfl _ _ gb647 34 #[.int .i64 t649, .int .i64 t650, .slice Ao21 t651.length co21] (0, 0) _ rfl (Z62 BK647) Tryz.underlying34 rfl (by kernel_rfl)) rfl ?_
   exact ⟨_, Z6, Kd.Q_of_R (by (with_reducible repeat (first | apply Kd.R_alloc | apply Kd.R_drewN | apply Kd.R_drew)); exact Kd.R_mono (Kd.R_far (p := ⟨gb647, 2, none⟩) (Kd.R_far (p := ⟨gb647, 1, none⟩) (Kd.R_far (p := ⟨gb647, 0, none⟩) (Kd.R_types HO653.out BK647.out (by decide)) (fun _ hk => hk.2) (.int .i64 t649)) (fun _ hk => hk.2) (.int .i64 t650)) (fun _ hk => hk.2) (.slice Ao21 t651.length co21)) (fun _ hk => trivial)), Z49 GE646 GE647 GE654 GE658 GE666⟩
  rw [if_neg c194] at H
  have c194b0 : (a1.toList == ([99, 114, 111, 115, 115, 105, 110, 103, 115] : List UInt8)) = false := beq_eq_false_iff_ne.mpr c194
  have c194b1 : (a1.toList != ([99, 114, 111, 115, 115, 105, 110, 103, 115] : List UInt8)) = true := bne_iff_ne.mpr c194
  (first | rw [c194b0] | rw [c194b1] | simp only [i64_w, i32_w, c194b0, c194b1] | skip)
  go_upto_if 82 with fail
  by_cases c229 : a1.toList = ([101, 110, 100, 115] : List UInt8)
  ·rw [if_pos c229] at H
   have c229b0 : (a1.toList == ([101, 110, 100, 115] : List UInt8)) = true := beq_iff_eq.mpr c229
   have c229b1 : (a1.toList != ([101, 110, 100, 115] : List UInt8)) = false := bne_eq_false_iff_eq.mpr c229
   (first | rw [c229b0] | rw [c229b1] | simp only [i64_w, i32_w, c229b0, c229b1] | skip)
   clear c229
   obtain ⟨t677, A230, H⟩ := sqD H
   obtain ⟨t680, A231, H⟩ := sqD H
   obtain ⟨rfl, rfl, rfl, rfl⟩ := sqO4 H
   try go_wp2_with fail
   obtain ⟨w257, hw_⟩ : ∃ w_, (w87.setCell ⟨gb666, 0, none⟩ (.int .i64 a0_0)).setCell ⟨gb666, 1, none⟩ (.int .i64 a0_1) = w_ := ⟨_, rfl⟩
   replace HO653 : Aside0 (Kd.R k31 31 w257 w.heap.size (fun k_ => k_ ≠ gb666) (.slice Ao21 t651.length co21) t651) := by rw [← hw_]; exact ⟨Z66 HO653⟩
   replace BK646 := sqJ hw_ NB646_666 BK646
   replace BK647 := sqJ hw_ NB647_666 BK647
   replace BK654 := sqJ hw_ NB654_666 BK654
   replace BK658 := sqJ hw_ NB658_666 BK658
   replace BK666 : Aside0 (w257.heap[gb666]? = some (.cells #[.int .i64 a0_0, .int .i64 a0_1] 31 (0, 0))) := by rw [← hw_]; exact ⟨Z5 BK666⟩
   replace HB : Aside0 (Below w.heap.size w w257) := by rw [← hw_]; exact ⟨Z49 GE646 GE647 GE654 GE658 GE666⟩
   rw [hw_]; clear hw_
   replace HO653 := Aside0.mk (Kd.R_drew HO653.out)
   replace BK646 := Aside0.mk (blk_drew BK646.out)
   replace BK647 := Aside0.mk (blk_drew BK647.out)
   replace BK654 := Aside0.mk (blk_drew BK654.out)
   replace BK658 := Aside0.mk (blk_drew BK658.out)
   replace BK666 := Aside0.mk (blk_drew BK666.out)
   replace HB := Aside0.mk (below_drew1 HB.out)
   refine start_ (n := 6) (S := fun w' => w'.cell? ⟨gb654, 0, none⟩ = some (.int .i64 t649) ∧ w'.cell? ⟨gb654, 1, none⟩ = some (.int .i64 t650) ∧ w'.cell? ⟨gb654, 2, none⟩ = some (.slice Ao21 t651.length co21) ∧ w'.cell? ⟨gb666, 0, none⟩ = some (.int .i64 a0_0) ∧ w'.cell? ⟨gb666, 1, none⟩ = some (.int .i64 a0_1)) (ds := []) #[false, false, false, false, false, false] (by kernel_rfl) rfl rfl ⟨(blk_cell BK654.out 0).trans rfl, (blk_cell BK654.out 1).trans rfl, (blk_cell BK654.out 2).trans rfl, (blk_cell BK666.out 0).trans rfl, (blk_cell BK666.out 1).trans rfl⟩ (fun hHeld => ?_)
   generalize w257.drew = w258 at HO653 BK646 BK647 BK654 BK658 BK666 HB hHeld ⊢
   refine sqQk (i := 0) (N := some 84) hHeld (h := ?_)
   refine sqQk (i := 1) (N := some 85) hHeld (h := ?_)
   refine one_ (i := 2) (N := some 86) #[true, true, true, false, false, false] rfl rfl (by kernel_rfl) (by decide) (fun K hK => ?_)
   refine goes_ Tryz.func95 (by kernel_rfl) rfl #[.agg #[.int .i64 a0_0, .int .i64 a0_1]] (by rfl) rfl rfl sqA ?_
   with_reducible refine (spec_EndsFor.calls k a0_0 a0_1 t677 _ A230.out).mono ?_
   rintro e w259 ⟨v678, rfl, ho0, hb⟩
   refine ⟨_, rfl, ?_⟩
   replace HO653 := sqU HO653 hb
   have HO679 := Aside0.mk (Kd.R_lower ho0 (below_size (Z49 GE646 GE647 GE654 GE658 GE666)))
   replace BK646 := sqT BK646 hb
   replace BK647 := sqT BK647 hb
   replace BK654 := sqT BK654 hb
   replace BK658 := sqT BK658 hb
   replace BK666 := sqT BK666 hb
   replace HB := Aside0.mk (below_step (Z49 GE646 GE647 GE654 GE658 GE666) hb)
   (try clear hb)
   (try clear hb2)
   (try clear hk)
   (try clear hi)
   (try clear ho0)
   obtain ⟨Ao260, co260, eo260⟩ := Kd.R_slice HO679.out
   (first | subst eo260 | (injection eo260 with f1_ f2_ f3_; have f4_ := f1_.symm; have f5_ := f3_.symm; clear f1_ f2_ f3_; subst f4_; subst f5_))
   refine hK.out _ _ ⟨(blk_cell BK654.out 0).trans rfl, (blk_cell BK654.out 1).trans rfl, (blk_cell BK654.out 2).trans rfl, (blk_cell BK666.out 0).trans rfl, (blk_cell BK666.out 1).trans rfl⟩ (fun hHeld => ?_)
   clear hK K
   refine sqN (some 86) ?_
   refine one_ (i := 3) (N := some 87) #[true, true, true, true, false, false] rfl rfl (by kernel_rfl) (by decide) (fun K hK => ?_)
   refine goes_ Tryz.func92 (by kernel_rfl) rfl #[.slice Ao260 t677.length co260] (by rfl) rfl rfl sqA ?_
   with_reducible refine (spec_l11Row.calls k _ _ t677 t680 _ ?side1 ?side2 A231.out).mono ?_
   (case side1 => exact Z8 HO679)
   (case side2 => exact Z9 HO679)
   rintro e w261 ⟨rfl, hb⟩
   refine ⟨_, rfl, ?_⟩
   replace HO653 := sqU HO653 hb
   replace HO679 := sqU HO679 hb
   replace BK646 := sqT BK646 hb
   replace BK647 := sqT BK647 hb
   replace BK654 := sqT BK654 hb
   replace BK658 := sqT BK658 hb
   replace BK666 := sqT BK666 hb
   replace HB := Aside0.mk (below_step (Z49 GE646 GE647 GE654 GE658 GE666) hb)
   (try clear hb)
   (try clear hb2)
   (try clear hk)
   (try clear hi)
   refine hK.out _ _ ⟨(blk_cell BK654.out 0).trans rfl, (blk_cell BK654.out 1).trans rfl, (blk_cell BK654.out 2).trans rfl, (blk_cell BK666.out 0).trans rfl, (blk_cell BK666.out 1).trans rfl⟩ (fun hHeld => ?_)
   clear hK K
   refine sqN (some 87) ?_
   refine one_ (i := 4) (N := none) #[true, true, true, true, true, false] rfl rfl (by kernel_rfl) (by decide) (fun K hK => ?_)
   have hs262 : w261.cell? ⟨gb647, 0, none⟩ = some (.int .i64 0) := (blk_cell BK647.out 0).trans rfl
   have hfs262 := blk_frozen BK647.out 0
   have hns262_0 := NB646_647.out
   have hns262_2 := NB654_647.out
   have hns262_3 := NB658_647.out
   have hns262_4 := NB666_647.out
   have hms262_0 := NB647_646.out
   have hms262_2 := NB647_654.out
   have hms262_3 := NB647_658.out
   have hms262_4 := NB647_666.out
   have hs263 : w261.cell? ⟨gb647, 1, none⟩ = some (.int .i64 0) := (blk_cell BK647.out 1).trans rfl
   have hfs263 := blk_frozen BK647.out 1
   have hs264 : w261.cell? ⟨gb647, 2, none⟩ = some (.slice none 0 0) := (blk_cell BK647.out 2).trans rfl
   have hfs264 := blk_frozen BK647.out 2
   refine skip_ (w1 := ?_) (by rfl) rfl ?_ ?_
   rotate_left
   ·go_simp
    rfl
   refine hK.out _ _ ⟨((cell_far (p := ⟨gb647, _, none⟩) NB654_647.out _).trans (((cell_far (p := ⟨gb647, _, none⟩) NB654_647.out _).trans (((cell_far (p := ⟨gb647, _, none⟩) NB654_647.out _).trans (hHeld.1)))))), ((cell_far (p := ⟨gb647, _, none⟩) NB654_647.out _).trans (((cell_far (p := ⟨gb647, _, none⟩) NB654_647.out _).trans (((cell_far (p := ⟨gb647, _, none⟩) NB654_647.out _).trans (hHeld.2.1)))))), ((cell_far (p := ⟨gb647, _, none⟩) NB654_647.out _).trans (((cell_far (p := ⟨gb647, _, none⟩) NB654_647.out _).trans (((cell_far (p := ⟨gb647, _, none⟩) NB654_647.out _).trans (hHeld.2.2.1)))))), ((cell_far (p := ⟨gb647, _, none⟩) NB666_647.out _).trans (((cell_far (p := ⟨gb647, _, none⟩) NB666_647.out _).trans (((cell_far (p := ⟨gb647, _, none⟩) NB666_647.out _).trans (hHeld.2.2.2.1)))))), ((cell_far (p := ⟨gb647, _, none⟩) NB666_647.out _).trans (((cell_far (p := ⟨gb647, _, none⟩) NB666_647.out _).trans (((cell_far (p := ⟨gb647, _, none⟩) NB666_647.out _).trans (hHeld.2.2.2.2))))))⟩ (fun hHeld => ?_)
   clear hK K
   refine sqPk (i := 5) (N := some 5) (h := ?_)
   refine done_ (by kernel_rfl) ?_
   try go_wp2
   refine bodyPost_ret (results_ct rfl _ _ gb647 34 #[.int .i64 t649, .int .i64 t650, .slice Ao21 t651.length co21] (0, 0) _ rfl (Z62 BK647) Tryz.underlying34 rfl (by kernel_rfl)) rfl ?_
   exact ⟨_, Z6, Kd.Q_of_R (by (with_reducible repeat (first | apply Kd.R_alloc | apply Kd.R_drewN | apply Kd.R_drew)); exact Kd.R_mono (Kd.R_far (p := ⟨gb647, 2, none⟩) (Kd.R_far (p := ⟨gb647, 1, none⟩) (Kd.R_far (p := ⟨gb647, 0, none⟩) (Kd.R_types HO653.out BK647.out (by decide)) (fun _ hk => hk.2) (.int .i64 t649)) (fun _ hk => hk.2) (.int .i64 t650)) (fun _ hk => hk.2) (.slice Ao21 t651.length co21)) (fun _ hk => trivial)), Z49 GE646 GE647 GE654 GE658 GE666⟩
  rw [if_neg c229] at H
  have c229b0 : (a1.toList == ([101, 110, 100, 115] : List UInt8)) = false := beq_eq_false_iff_ne.mpr c229
  have c229b1 : (a1.toList != ([101, 110, 100, 115] : List UInt8)) = true := bne_iff_ne.mpr c229
  (first | rw [c229b0] | rw [c229b1] | simp only [i64_w, i32_w, c229b0, c229b1] | skip)
  go_upto_if 88 with fail
  by_cases c265 : a1.toList = ([114, 105, 110, 103, 115] : List UInt8)
  ·rw [if_pos c265] at H
   have c265b0 : (a1.toList == ([114, 105, 110, 103, 115] : List UInt8)) = true := beq_iff_eq.mpr c265
   have c265b1 : (a1.toList != ([114, 105, 110, 103, 115] : List UInt8)) = false := bne_eq_false_iff_eq.mpr c265
   (first | rw [c265b0] | rw [c265b1] | simp only [i64_w, i32_w, c265b0, c265b1] | skip)
   clear c265
   obtain ⟨t681, A266, H⟩ := sqD H
   obtain ⟨t682, A267, H⟩ := sqD H
   obtain ⟨rfl, rfl, rfl, rfl⟩ := sqO4 H
   try go_wp2_with fail
   obtain ⟨w293, hw_⟩ : ∃ w_, (w87.setCell ⟨gb666, 0, none⟩ (.int .i64 a0_0)).setCell ⟨gb666, 1, none⟩ (.int .i64 a0_1) = w_ := ⟨_, rfl⟩
   replace HO653 : Aside0 (Kd.R k31 31 w293 w.heap.size (fun k_ => k_ ≠ gb666) (.slice Ao21 t651.length co21) t651) := by rw [← hw_]; exact ⟨Z66 HO653⟩
   replace BK646 := sqJ hw_ NB646_666 BK646
   replace BK647 := sqJ hw_ NB647_666 BK647
   replace BK654 := sqJ hw_ NB654_666 BK654
   replace BK658 := sqJ hw_ NB658_666 BK658
   replace BK666 : Aside0 (w293.heap[gb666]? = some (.cells #[.int .i64 a0_0, .int .i64 a0_1] 31 (0, 0))) := by rw [← hw_]; exact ⟨Z5 BK666⟩
   replace HB : Aside0 (Below w.heap.size w w293) := by rw [← hw_]; exact ⟨Z49 GE646 GE647 GE654 GE658 GE666⟩
   rw [hw_]; clear hw_
   replace HO653 := Aside0.mk (Kd.R_drew HO653.out)
   replace BK646 := Aside0.mk (blk_drew BK646.out)
   replace BK647 := Aside0.mk (blk_drew BK647.out)
   replace BK654 := Aside0.mk (blk_drew BK654.out)
   replace BK658 := Aside0.mk (blk_drew BK658.out)
   replace BK666 := Aside0.mk (blk_drew BK666.out)
   replace HB := Aside0.mk (below_drew1 HB.out)
   refine start_ (n := 6) (S := fun w' => w'.cell? ⟨gb654, 0, none⟩ = some (.int .i64 t649) ∧ w'.cell? ⟨gb654, 1, none⟩ = some (.int .i64 t650) ∧ w'.cell? ⟨gb654, 2, none⟩ = some (.slice Ao21 t651.length co21) ∧ w'.cell? ⟨gb666, 0, none⟩ = some (.int .i64 a0_0) ∧ w'.cell? ⟨gb666, 1, none⟩ = some (.int .i64 a0_1)) (ds := []) #[false, false, false, false, false, false] (by kernel_rfl) rfl rfl ⟨(blk_cell BK654.out 0).trans rfl, (blk_cell BK654.out 1).trans rfl, (blk_cell BK654.out 2).trans rfl, (blk_cell BK666.out 0).trans rfl, (blk_cell BK666.out 1).trans rfl⟩ (fun hHeld => ?_)
   generalize w293.drew = w294 at HO653 BK646 BK647 BK654 BK658 BK666 HB hHeld ⊢
   refine sqQk (i := 0) (N := some 90) hHeld (h := ?_)
   refine sqQk (i := 1) (N := some 91) hHeld (h := ?_)
   refine one_ (i := 2) (N := some 92) #[true, true, true, false, false, false] rfl rfl (by kernel_rfl) (by decide) (fun K hK => ?_)
   refine goes_ Tryz.func96 (by kernel_rfl) rfl #[.agg #[.int .i64 a0_0, .int .i64 a0_1]] (by rfl) rfl rfl sqA ?_
   with_reducible refine (spec_RingsOf.calls k a0_0 a0_1 t681 _ A266.out).mono ?_
   rintro e w295 ⟨rfl, hb⟩
   refine ⟨_, rfl, ?_⟩
   replace HO653 := sqU HO653 hb
   replace BK646 := sqT BK646 hb
   replace BK647 := sqT BK647 hb
   replace BK654 := sqT BK654 hb
   replace BK658 := sqT BK658 hb
   replace BK666 := sqT BK666 hb
   replace HB := Aside0.mk (below_step (Z49 GE646 GE647 GE654 GE658 GE666) hb)
   (try clear hb)
   (try clear hb2)
   (try clear hk)
   (try clear hi)
   refine hK.out _ _ ⟨(blk_cell BK654.out 0).trans rfl, (blk_cell BK654.out 1).trans rfl, (blk_cell BK654.out 2).trans rfl, (blk_cell BK666.out 0).trans rfl, (blk_cell BK666.out 1).trans rfl⟩ (fun hHeld => ?_)
   clear hK K
   refine sqN (some 92) ?_
   refine one_ (i := 3) (N := some 93) #[true, true, true, true, false, false] rfl rfl (by kernel_rfl) (by decide) (fun K hK => ?_)
   refine goes_ Tryz.func93 (by kernel_rfl) rfl #[.int .i64 t681] (by rfl) rfl rfl sqA ?_
   with_reducible refine (spec_l1Number.calls k t681 t682 _ A267.out).mono ?_
   rintro e w296 ⟨rfl, hb⟩
   refine ⟨_, rfl, ?_⟩
   replace HO653 := sqU HO653 hb
   replace BK646 := sqT BK646 hb
   replace BK647 := sqT BK647 hb
   replace BK654 := sqT BK654 hb
   replace BK658 := sqT BK658 hb
   replace BK666 := sqT BK666 hb
   replace HB := Aside0.mk (below_step (Z49 GE646 GE647 GE654 GE658 GE666) hb)
   (try clear hb)
   (try clear hb2)
   (try clear hk)
   (try clear hi)
   refine hK.out _ _ ⟨(blk_cell BK654.out 0).trans rfl, (blk_cell BK654.out 1).trans rfl, (blk_cell BK654.out 2).trans rfl, (blk_cell BK666.out 0).trans rfl, (blk_cell BK666.out 1).trans rfl⟩ (fun hHeld => ?_)
   clear hK K
   refine sqN (some 93) ?_
   refine one_ (i := 4) (N := none) #[true, true, true, true, true, false] rfl rfl (by kernel_rfl) (by decide) (fun K hK => ?_)
   have hs297 : w296.cell? ⟨gb647, 0, none⟩ = some (.int .i64 0) := (blk_cell BK647.out 0).trans rfl
   have hfs297 := blk_frozen BK647.out 0
   have hns297_0 := NB646_647.out
   have hns297_2 := NB654_647.out
   have hns297_3 := NB658_647.out
   have hns297_4 := NB666_647.out
   have hms297_0 := NB647_646.out
   have hms297_2 := NB647_654.out
   have hms297_3 := NB647_658.out
   have hms297_4 := NB647_666.out
   have hs298 : w296.cell? ⟨gb647, 1, none⟩ = some (.int .i64 0) := (blk_cell BK647.out 1).trans rfl
   have hfs298 := blk_frozen BK647.out 1
   have hs299 : w296.cell? ⟨gb647, 2, none⟩ = some (.slice none 0 0) := (blk_cell BK647.out 2).trans rfl
   have hfs299 := blk_frozen BK647.out 2
   refine skip_ (w1 := ?_) (by rfl) rfl ?_ ?_
   rotate_left
   ·go_simp
    rfl
   refine hK.out _ _ ⟨((cell_far (p := ⟨gb647, _, none⟩) NB654_647.out _).trans (((cell_far (p := ⟨gb647, _, none⟩) NB654_647.out _).trans (((cell_far (p := ⟨gb647, _, none⟩) NB654_647.out _).trans (hHeld.1)))))), ((cell_far (p := ⟨gb647, _, none⟩) NB654_647.out _).trans (((cell_far (p := ⟨gb647, _, none⟩) NB654_647.out _).trans (((cell_far (p := ⟨gb647, _, none⟩) NB654_647.out _).trans (hHeld.2.1)))))), ((cell_far (p := ⟨gb647, _, none⟩) NB654_647.out _).trans (((cell_far (p := ⟨gb647, _, none⟩) NB654_647.out _).trans (((cell_far (p := ⟨gb647, _, none⟩) NB654_647.out _).trans (hHeld.2.2.1)))))), ((cell_far (p := ⟨gb647, _, none⟩) NB666_647.out _).trans (((cell_far (p := ⟨gb647, _, none⟩) NB666_647.out _).trans (((cell_far (p := ⟨gb647, _, none⟩) NB666_647.out _).trans (hHeld.2.2.2.1)))))), ((cell_far (p := ⟨gb647, _, none⟩) NB666_647.out _).trans (((cell_far (p := ⟨gb647, _, none⟩) NB666_647.out _).trans (((cell_far (p := ⟨gb647, _, none⟩) NB666_647.out _).trans (hHeld.2.2.2.2))))))⟩ (fun hHeld => ?_)
   clear hK K
   refine sqPk (i := 5) (N := some 5) (h := ?_)
   refine done_ (by kernel_rfl) ?_
   try go_wp2
   refine bodyPost_ret (results_ct rfl _ _ gb647 34 #[.int .i64 t649, .int .i64 t650, .slice Ao21 t651.length co21] (0, 0) _ rfl (Z62 BK647) Tryz.underlying34 rfl (by kernel_rfl)) rfl ?_
   exact ⟨_, Z6, Kd.Q_of_R (by (with_reducible repeat (first | apply Kd.R_alloc | apply Kd.R_drewN | apply Kd.R_drew)); exact Kd.R_mono (Kd.R_far (p := ⟨gb647, 2, none⟩) (Kd.R_far (p := ⟨gb647, 1, none⟩) (Kd.R_far (p := ⟨gb647, 0, none⟩) (Kd.R_types HO653.out BK647.out (by decide)) (fun _ hk => hk.2) (.int .i64 t649)) (fun _ hk => hk.2) (.int .i64 t650)) (fun _ hk => hk.2) (.slice Ao21 t651.length co21)) (fun _ hk => trivial)), Z49 GE646 GE647 GE654 GE658 GE666⟩
  rw [if_neg c265] at H
  have c265b0 : (a1.toList == ([114, 105, 110, 103, 115] : List UInt8)) = false := beq_eq_false_iff_ne.mpr c265
  have c265b1 : (a1.toList != ([114, 105, 110, 103, 115] : List UInt8)) = true := bne_iff_ne.mpr c265
  (first | rw [c265b0] | rw [c265b1] | simp only [i64_w, i32_w, c265b0, c265b1] | skip)
  go_upto_if 94 with fail
  by_cases c300 : a1.toList = ([108, 105, 110, 107] : List UInt8)
  ·rw [if_pos c300] at H
   have c300b0 : (a1.toList == ([108, 105, 110, 107] : List UInt8)) = true := beq_iff_eq.mpr c300
   have c300b1 : (a1.toList != ([108, 105, 110, 107] : List UInt8)) = false := bne_eq_false_iff_eq.mpr c300
   (first | rw [c300b0] | rw [c300b1] | simp only [i64_w, i32_w, c300b0, c300b1] | skip)
   clear c300
   obtain ⟨⟨t683, t684, t685⟩, A301, H⟩ := sqD H
   try dsimp only at H
   go_upto_if 102 with (first | ((with_reducible refine gate_callee (f := 97) rfl ?_); refine sqC (some 98) Tryz.func97 #[.agg #[.int .i64 a0_0, .int .i64 a0_1]] ?_; (with_reducible refine (spec_LinkOf.calls k a0_0 a0_1 t683 t684 t685 _ A301.out).mono ?_); rintro e w333 ⟨rfl, hb⟩; refine ⟨_, rfl, ?_⟩; replace HO653 := Aside0.mk (Kd.R_below (Z67 HO653) hb); replace BK646 := sqH NB646_666 BK646 hb; replace BK647 := sqH NB647_666 BK647 hb; replace BK654 := sqH NB654_666 BK654 hb; replace BK658 := sqH NB658_666 BK658 hb; replace BK666 := Aside0.mk (blk_below (g := gb666) (o := .cells #[.int .i64 a0_0, .int .i64 a0_1] 31 (0, 0)) (Z5 BK666) hb); replace HB := Aside0.mk (below_step (Z49 GE646 GE647 GE654 GE658 GE666) hb); (try clear hb)) | ((with_reducible refine gate_dst (N := 16) rfl ?_); refine sqBox (N := 16) (cs := #[.int .i64 0, .int .i64 0]) (t := 116) ?_; intro gb686 hg w334 BK686 hb; replace HO653 := sqU HO653 hb; have GW686 := Aside0.mk ((by rw [hg]; exact (below_size (Z49 GE646 GE647 GE654 GE658 GE666)) : w.heap.size ≤ gb686)); have GE686 := GW686; replace HB := Aside0.mk (below_step (Z49 GE646 GE647 GE654 GE658 GE666) hb); obtain ⟨NB646_686, NB686_646⟩ := sqM hg BK646; replace BK646 := sqT BK646 hb; obtain ⟨NB647_686, NB686_647⟩ := sqM hg BK647; replace BK647 := sqT BK647 hb; obtain ⟨NB654_686, NB686_654⟩ := sqM hg BK654; replace BK654 := sqT BK654 hb; obtain ⟨NB658_686, NB686_658⟩ := sqM hg BK658; replace BK658 := sqT BK658 hb; obtain ⟨NB666_686, NB686_666⟩ := sqM hg BK666; replace BK666 := sqT BK666 hb; clear hb hg; have hnb335 := NB686_646.out; have hnc335 := NB646_686.out; have hnb336 := NB686_647.out; have hnc336 := NB647_686.out; have hnb337 := NB686_654.out; have hnc337 := NB654_686.out; have hnb338 := NB686_658.out; have hnc338 := NB658_686.out; have hnb339 := NB686_666.out; have hnc339 := NB666_686.out; obtain ⟨hcz340_0, hcz340_1, hfz340_0, hfz340_1⟩ := sqY2 BK686; obtain ⟨hcz390_0, hcz390_1, hcz390_2, hfz390_0, hfz390_1, hfz390_2⟩ := sqY3 BK654; obtain ⟨hcz391_0, hcz391_1, hcz391_2, hfz391_0, hfz391_1, hfz391_2⟩ := sqY3 BK647))
   by_cases c302 : t685 = true
   ·subst c302
    rw [if_pos rfl] at H
    obtain ⟨⟨t687, t688, t689⟩, A303, H⟩ := sqD H
    try dsimp only at H
    obtain ⟨t691, A304, H⟩ := sqD H
    obtain ⟨c305, H⟩ := sqI H
    have c305b0 := eq_true c305
    have c305b1 : decide (t691.size + 1 ≤ 9223372036854775807) = true := decide_eq_true c305
    try have c305b2 : (9223372036854775807 < t691.size + 1) = False := eq_false (Nat.not_lt.2 c305)
    obtain ⟨t692, A306, H⟩ := sqD H
    obtain ⟨c307, H⟩ := sqI H
    have c307b0 := eq_true c307
    have c307b1 : decide ((t691 ++ (⟨#[58]⟩ : ByteArray)).size + t692.size ≤ 9223372036854775807) = true := decide_eq_true c307
    try have c307b2 : (9223372036854775807 < (t691 ++ (⟨#[58]⟩ : ByteArray)).size + t692.size) = False := eq_false (Nat.not_lt.2 c307)
    try have c307b7 : (9223372036854775807 < t691.size + 1 + t692.size) = False := by (have h_ := c307b2; (repeat rw [ByteArray.size_append] at h_); exact h_)
    obtain ⟨rfl, rfl, rfl, rfl⟩ := sqO4 H
    try go_wp2_with (first | ((with_reducible refine gate_callee (f := 98) rfl ?_); refine sqC (some 106) Tryz.func98 #[.agg #[.int .i64 t683, .int .i64 t684]] ?_; (with_reducible refine (spec_LeastOf.calls k t683 t684 t687 t688 t689 _ A303.out).mono ?_); rintro e w341 ⟨rfl, hb⟩; refine ⟨_, rfl, ?_⟩; replace HO653 := Aside0.mk (Kd.R_below (by (with_reducible repeat (first | apply Kd.R_alloc | apply Kd.R_drewN | apply Kd.R_drew)); exact (Kd.R_mono (Kd.R_far (p := ⟨gb686, 1, none⟩) (Kd.R_far (p := ⟨gb686, 0, none⟩) (Kd.R_types HO653.out BK686.out (by decide)) (fun _ hk => hk.2) (.int .i64 t683)) (fun _ hk => hk.2) (.int .i64 t684)) (fun _ h_ => h_.1))) hb); replace BK646 := sqH NB646_686 BK646 hb; replace BK647 := sqH NB647_686 BK647 hb; replace BK654 := sqH NB654_686 BK654 hb; replace BK658 := sqH NB658_686 BK658 hb; replace BK666 := sqH NB666_686 BK666 hb; replace BK686 := Aside0.mk (blk_below (g := gb686) (o := .cells #[.int .i64 t683, .int .i64 t684] 116 (0, 0)) (by refine sqPut (cs := #[.int .i64 t683, .int .i64 0]) ?_ 1; refine sqPut (cs := #[.int .i64 0, .int .i64 0]) ?_ 0; exact sqK BK686) hb); replace HB := Aside0.mk (below_step (Z68 GE646 GE647 GE654 GE658 GE666 GE686) hb); (try clear hb)) | ((with_reducible refine gate_dst (N := 18) rfl ?_); refine sqBox (N := 18) (cs := #[.int .i64 0, .int .i64 0]) (t := 116) ?_; intro gb690 hg w342 BK690 hb; replace HO653 := sqU HO653 hb; have GW690 := Aside0.mk ((by rw [hg]; exact (below_size (Z68 GE646 GE647 GE654 GE658 GE666 GE686)) : w.heap.size ≤ gb690)); have GE690 := GW690; replace HB := Aside0.mk (below_step (Z68 GE646 GE647 GE654 GE658 GE666 GE686) hb); obtain ⟨NB646_690, NB690_646⟩ := sqM hg BK646; replace BK646 := sqT BK646 hb; obtain ⟨NB647_690, NB690_647⟩ := sqM hg BK647; replace BK647 := sqT BK647 hb; obtain ⟨NB654_690, NB690_654⟩ := sqM hg BK654; replace BK654 := sqT BK654 hb; obtain ⟨NB658_690, NB690_658⟩ := sqM hg BK658; replace BK658 := sqT BK658 hb; obtain ⟨NB666_690, NB690_666⟩ := sqM hg BK666; replace BK666 := sqT BK666 hb; obtain ⟨NB686_690, NB690_686⟩ := sqM hg BK686; replace BK686 := sqT BK686 hb; clear hb hg; have hnb343 := NB690_646.out; have hnc343 := NB646_690.out; have hnb344 := NB690_647.out; have hnc344 := NB647_690.out; have hnb345 := NB690_654.out; have hnc345 := NB654_690.out; have hnb346 := NB690_658.out; have hnc346 := NB658_690.out; have hnb347 := NB690_666.out; have hnc347 := NB666_690.out; have hnb348 := NB690_686.out; have hnc348 := NB686_690.out; obtain ⟨hcz349_0, hcz349_1, hfz349_0, hfz349_1⟩ := sqY2 BK690))
    obtain ⟨w350, hw_⟩ : ∃ w_, (w342.setCell ⟨gb690, 0, none⟩ (.int .i64 t687)).setCell ⟨gb690, 1, none⟩ (.int .i64 t688) = w_ := ⟨_, rfl⟩
    replace HO653 : Aside0 (Kd.R k31 31 w350 w.heap.size (fun k_ => k_ ≠ gb666) (.slice Ao21 t651.length co21) t651) := by rw [← hw_]; exact ⟨by (with_reducible repeat (first | apply Kd.R_alloc | apply Kd.R_drewN | apply Kd.R_drew)); exact Kd.R_mono (Kd.R_far (p := ⟨gb690, 1, none⟩) (Kd.R_far (p := ⟨gb690, 0, none⟩) (Kd.R_types HO653.out BK690.out (by decide)) (fun _ hk => hk.2) (.int .i64 t687)) (fun _ hk => hk.2) (.int .i64 t688)) (fun _ hk => hk.1.2)⟩
    replace BK646 := sqJ hw_ NB646_690 BK646
    replace BK647 := sqJ hw_ NB647_690 BK647
    replace BK654 := sqJ hw_ NB654_690 BK654
    replace BK658 := sqJ hw_ NB658_690 BK658
    replace BK666 := sqJ hw_ NB666_690 BK666
    replace BK686 := sqJ hw_ NB686_690 BK686
    replace BK690 : Aside0 (w350.heap[gb690]? = some (.cells #[.int .i64 t687, .int .i64 t688] 116 (0, 0))) := by rw [← hw_]; exact ⟨by refine sqPut (cs := #[.int .i64 t687, .int .i64 0]) ?_ 1; refine sqPut (cs := #[.int .i64 0, .int .i64 0]) ?_ 0; exact sqK BK690⟩
    replace HB : Aside0 (Below w.heap.size w w350) := by rw [← hw_]; exact ⟨Z69 GE646 GE647 GE654 GE658 GE666 GE686 GE690⟩
    rw [hw_]; clear hw_
    replace HO653 := Aside0.mk (Kd.R_drew HO653.out)
    replace BK646 := Aside0.mk (blk_drew BK646.out)
    replace BK647 := Aside0.mk (blk_drew BK647.out)
    replace BK654 := Aside0.mk (blk_drew BK654.out)
    replace BK658 := Aside0.mk (blk_drew BK658.out)
    replace BK666 := Aside0.mk (blk_drew BK666.out)
    replace BK686 := Aside0.mk (blk_drew BK686.out)
    replace BK690 := Aside0.mk (blk_drew BK690.out)
    replace HB := Aside0.mk (below_drew1 HB.out)
    refine start_ (n := 11) (S := fun w' => w'.cell? ⟨gb654, 0, none⟩ = some (.int .i64 t649) ∧ w'.cell? ⟨gb654, 1, none⟩ = some (.int .i64 t650) ∧ w'.cell? ⟨gb654, 2, none⟩ = some (.slice Ao21 t651.length co21) ∧ w'.cell? ⟨gb690, 0, none⟩ = some (.int .i64 t687) ∧ w'.cell? ⟨gb690, 1, none⟩ = some (.int .i64 t688)) (ds := []) #[false, false, false, false, false, false, false, false, false, false, false] (by kernel_rfl) rfl rfl ⟨(blk_cell BK654.out 0).trans rfl, (blk_cell BK654.out 1).trans rfl, (blk_cell BK654.out 2).trans rfl, (blk_cell BK690.out 0).trans rfl, (blk_cell BK690.out 1).trans rfl⟩ (fun hHeld => ?_); refine with_tabW spec_DeskLine.tab33 spec_DeskLine.bits33 (fun HT_ HW_ => ?_)
    generalize w350.drew = w351 at HO653 BK646 BK647 BK654 BK658 BK666 BK686 BK690 HB hHeld ⊢
    refine sqP (i := 1) (N := some 110) (h := ?_)
    refine sqP (i := 5) (N := some 114) (h := ?_)
    refine sqQ (i := 0) (N := some 109) hHeld (h := ?_)
    refine sqQ (i := 2) (N := some 111) hHeld (h := ?_)
    refine sqQ (i := 6) (N := some 115) hHeld (h := ?_)
    refine one_ (i := 3) (N := some 112) #[true, true, true, true, false, true, true, false, false, false, false] rfl rfl (one_of HT_.out (by kernel_rfl)) (by decide) (fun K hK => ?_)
    refine goes_ Tryz.func93 (by kernel_rfl) rfl #[.int .i64 t687] (by rfl) rfl rfl sqA ?_
    with_reducible refine (spec_l1Number.calls k t687 t691 _ A304.out).mono ?_
    rintro e w352 ⟨rfl, hb⟩
    refine ⟨_, rfl, ?_⟩
    replace HO653 := sqU HO653 hb
    replace BK646 := sqT BK646 hb
    replace BK647 := sqT BK647 hb
    replace BK654 := sqT BK654 hb
    replace BK658 := sqT BK658 hb
    replace BK666 := sqT BK666 hb
    replace BK686 := sqT BK686 hb
    replace BK690 := sqT BK690 hb
    replace HB := Aside0.mk (below_step (Z69 GE646 GE647 GE654 GE658 GE666 GE686 GE690) hb)
    (try clear hb)
    (try clear hb2)
    (try clear hk)
    (try clear hi)
    refine hK.out _ _ ⟨(blk_cell BK654.out 0).trans rfl, (blk_cell BK654.out 1).trans rfl, (blk_cell BK654.out 2).trans rfl, (blk_cell BK690.out 0).trans rfl, (blk_cell BK690.out 1).trans rfl⟩ (fun hHeld => ?_)
    clear hK K
    refine sqN (some 112) ?_
    refine sqP (i := 4) (N := some 113) (h := ?_)
    refine one_ (i := 7) (N := some 116) #[true, true, true, true, true, true, true, true, false, false, false] rfl rfl (one_of HT_.out (by kernel_rfl)) (by decide) (fun K hK => ?_)
    refine goes_ Tryz.func93 (by kernel_rfl) rfl #[.int .i64 t688] (by rfl) rfl rfl sqA ?_
    with_reducible refine (spec_l1Number.calls k t688 t692 _ A306.out).mono ?_
    rintro e w353 ⟨rfl, hb⟩
    refine ⟨_, rfl, ?_⟩
    replace HO653 := sqU HO653 hb
    replace BK646 := sqT BK646 hb
    replace BK647 := sqT BK647 hb
    replace BK654 := sqT BK654 hb
    replace BK658 := sqT BK658 hb
    replace BK666 := sqT BK666 hb
    replace BK686 := sqT BK686 hb
    replace BK690 := sqT BK690 hb
    replace HB := Aside0.mk (below_step (Z69 GE646 GE647 GE654 GE658 GE666 GE686 GE690) hb)
    (try clear hb)
    (try clear hb2)
    (try clear hk)
    (try clear hi)
    refine hK.out _ _ ⟨(blk_cell BK654.out 0).trans rfl, (blk_cell BK654.out 1).trans rfl, (blk_cell BK654.out 2).trans rfl, (blk_cell BK690.out 0).trans rfl, (blk_cell BK690.out 1).trans rfl⟩ (fun hHeld => ?_)
    clear hK K
    refine sqN (some 116) ?_
    refine sqP (i := 8) (N := some 117) (h := ?_)
    refine one_ (i := 9) (N := none) #[true, true, true, true, true, true, true, true, true, true, false] rfl rfl (one_of HT_.out (by kernel_rfl)) (by decide) (fun K hK => ?_)
    have hs354 : w353.cell? ⟨gb647, 0, none⟩ = some (.int .i64 0) := (blk_cell BK647.out 0).trans rfl
    have hfs354 := blk_frozen BK647.out 0
    have hns354_0 := NB646_647.out
    have hns354_2 := NB654_647.out
    have hns354_3 := NB658_647.out
    have hns354_4 := NB666_647.out
    have hns354_5 := NB686_647.out
    have hns354_6 := NB690_647.out
    have hms354_0 := NB647_646.out
    have hms354_2 := NB647_654.out
    have hms354_3 := NB647_658.out
    have hms354_4 := NB647_666.out
    have hms354_5 := NB647_686.out
    have hms354_6 := NB647_690.out
    have hs355 : w353.cell? ⟨gb647, 1, none⟩ = some (.int .i64 0) := (blk_cell BK647.out 1).trans rfl
    have hfs355 := blk_frozen BK647.out 1
    have hs356 : w353.cell? ⟨gb647, 2, none⟩ = some (.slice none 0 0) := (blk_cell BK647.out 2).trans rfl
    have hfs356 := blk_frozen BK647.out 2
    refine skip_ (w1 := ?_) (by rfl) rfl ?_ ?_
    rotate_left
    ·go_simp
     rfl
    refine hK.out _ _ ⟨((cell_far (p := ⟨gb647, _, none⟩) NB654_647.out _).trans (((cell_far (p := ⟨gb647, _, none⟩) NB654_647.out _).trans (((cell_far (p := ⟨gb647, _, none⟩) NB654_647.out _).trans (hHeld.1)))))), ((cell_far (p := ⟨gb647, _, none⟩) NB654_647.out _).trans (((cell_far (p := ⟨gb647, _, none⟩) NB654_647.out _).trans (((cell_far (p := ⟨gb647, _, none⟩) NB654_647.out _).trans (hHeld.2.1)))))), ((cell_far (p := ⟨gb647, _, none⟩) NB654_647.out _).trans (((cell_far (p := ⟨gb647, _, none⟩) NB654_647.out _).trans (((cell_far (p := ⟨gb647, _, none⟩) NB654_647.out _).trans (hHeld.2.2.1)))))), ((cell_far (p := ⟨gb647, _, none⟩) NB690_647.out _).trans (((cell_far (p := ⟨gb647, _, none⟩) NB690_647.out _).trans (((cell_far (p := ⟨gb647, _, none⟩) NB690_647.out _).trans (hHeld.2.2.2.1)))))), ((cell_far (p := ⟨gb647, _, none⟩) NB690_647.out _).trans (((cell_far (p := ⟨gb647, _, none⟩) NB690_647.out _).trans (((cell_far (p := ⟨gb647, _, none⟩) NB690_647.out _).trans (hHeld.2.2.2.2))))))⟩ (fun hHeld => ?_)
    clear hK K
    refine sqP (i := 10) (N := some 5) (h := ?_)
    refine done_ (done_of HT_.out (by kernel_rfl)) ?_
    try go_wp2
    refine bodyPost_ret (results_ct rfl _ _ gb647 34 #[.int .i64 t649, .int .i64 t650, .slice Ao21 t651.length co21] (0, 0) _ rfl (Z62 BK647) Tryz.underlying34 rfl (by kernel_rfl)) rfl ?_
    exact ⟨_, Z6, Kd.Q_of_R (by (with_reducible repeat (first | apply Kd.R_alloc | apply Kd.R_drewN | apply Kd.R_drew)); exact Kd.R_mono (Kd.R_far (p := ⟨gb647, 2, none⟩) (Kd.R_far (p := ⟨gb647, 1, none⟩) (Kd.R_far (p := ⟨gb647, 0, none⟩) (Kd.R_types HO653.out BK647.out (by decide)) (fun _ hk => hk.2) (.int .i64 t649)) (fun _ hk => hk.2) (.int .i64 t650)) (fun _ hk => hk.2) (.slice Ao21 t651.length co21)) (fun _ hk => trivial)), Z69 GE646 GE647 GE654 GE658 GE666 GE686 GE690⟩
   replace c302 := Bool.eq_false_iff.mpr c302
   subst c302
   rw [if_neg sqF] at H
   obtain ⟨rfl, rfl, rfl, rfl⟩ := sqO4 H
   go_wp2_with fail
   refine bodyPost_ret (results_ct rfl _ _ gb647 34 #[.int .i64 t649, .int .i64 t650, .slice Ao21 t651.length co21] (0, 0) _ rfl (by refine sqPut (cs := #[.int .i64 t649, .int .i64 t650, .slice none 0 0]) ?_ 2; refine sqPut (cs := #[.int .i64 t649, .int .i64 0, .slice none 0 0]) ?_ 1; refine sqPut (cs := #[.int .i64 0, .int .i64 0, .slice none 0 0]) ?_ 0; refine sqFar ?_ NB647_686; refine sqFar ?_ NB647_686; exact sqK BK647) Tryz.underlying34 rfl (by kernel_rfl)) rfl ?_
   exact ⟨_, Z6, Kd.Q_of_R (by (with_reducible repeat (first | apply Kd.R_alloc | apply Kd.R_drewN | apply Kd.R_drew)); exact Kd.R_mono (Kd.R_far (p := ⟨gb647, 2, none⟩) (Kd.R_far (p := ⟨gb647, 1, none⟩) (Kd.R_far (p := ⟨gb647, 0, none⟩) (Kd.R_far (p := ⟨gb686, 1, none⟩) (Kd.R_far (p := ⟨gb686, 0, none⟩) (Kd.R_types (Kd.R_types HO653.out BK686.out (by decide)) BK647.out (by decide)) (fun _ hk => hk.1.2) (.int .i64 t683)) (fun _ hk => hk.1.2) (.int .i64 t684)) (fun _ hk => hk.2) (.int .i64 t649)) (fun _ hk => hk.2) (.int .i64 t650)) (fun _ hk => hk.2) (.slice Ao21 t651.length co21)) (fun _ hk => trivial)), Z68 GE646 GE647 GE654 GE658 GE666 GE686⟩
  rw [if_neg c300] at H
  have c300b0 : (a1.toList == ([108, 105, 110, 107] : List UInt8)) = false := beq_eq_false_iff_ne.mpr c300
  have c300b1 : (a1.toList != ([108, 105, 110, 107] : List UInt8)) = true := bne_iff_ne.mpr c300
  (first | rw [c300b0] | rw [c300b1] | simp only [i64_w, i32_w, c300b0, c300b1] | skip)
  obtain ⟨t693, A392, H⟩ := sqD H
  have HC393 := Aside0.mk H
  clear H
  go_upto_region 35 with (first | ((with_reducible refine gate_callee (f := 99) rfl ?_); refine sqC (some 119) Tryz.func99 #[.string a1, .int .u8 32] ?_; (with_reducible refine (spec_l1Cut.calls k a1 32 t693 _ A392.out).mono ?_); rintro e w419 ⟨v694, rfl, ho0, hb⟩; refine ⟨_, rfl, ?_⟩; replace HO653 := Aside0.mk (Kd.R_below (Z67 HO653) hb); have HO695 := Aside0.mk (Kd.R_lower ho0 (below_size (Z49 GE646 GE647 GE654 GE658 GE666))); replace BK646 := sqH NB646_666 BK646 hb; replace BK647 := sqH NB647_666 BK647 hb; replace BK654 := sqH NB654_666 BK654 hb; replace BK658 := sqH NB658_666 BK658 hb; replace BK666 := Aside0.mk (blk_below (g := gb666) (o := .cells #[.int .i64 a0_0, .int .i64 a0_1] 31 (0, 0)) (Z5 BK666) hb); replace HB := Aside0.mk (below_step (Z49 GE646 GE647 GE654 GE658 GE666) hb); (try clear hb); (try clear ho0)))
  (try simp only [Act.put, List.setIfInBounds_toArray, List.set_cons_zero, List.set_cons_succ])
  go_cut [128] (fun v128 wc => ∃ (kq : Nat) (x128_392 : Bool), v128 = .bool x128_392 ∧ Aside0 (spec_DeskLine.j0 kq t693 x128_392 t649 t650 t651 a0_0 a0_1 = some (r1, r2, r3, r4)) ∧ Aside0 (kq ≤ k) ∧ Aside0 (Kd.R Kd.string 9 wc w.heap.size (fun _ => True) v694 t693) ∧ Aside0 (Kd.Q k31 31 wc w.heap.size (fun k_ => k_ ≠ gb666) (.slice Ao21 t651.length co21) t651) ∧ Aside0 (wc.heap[gb646]? = some (.cells #[.int .i64 a0_0, .int .i64 a0_1, (.slice A0_2 l0_2.length c0_2)] 34 (0, 0))) ∧ Aside0 (wc.heap[gb647]? = some (.cells #[.int .i64 0, .int .i64 0, (.slice none 0 0)] 34 (0, 0))) ∧ Aside0 (wc.heap[gb654]? = some (.cells #[.int .i64 t649, .int .i64 t650, (.slice Ao21 t651.length co21)] 34 (0, 0))) ∧ Aside0 (wc.heap[gb658]? = some (.cells #[.int .i64 t655, .string t656] 38 (0, 0))) ∧ Aside0 (wc.heap[gb666]? = some (.cells #[.int .i64 a0_0, .int .i64 a0_1] 31 (0, 0))) ∧ Aside0 (Below w.heap.size w wc))
  case first =>
   have H := HC393.out
   clear HC393
   by_cases c420 : (t693.length : Int) = 2
   ·rw [if_pos c420] at H
    have c420b0 : ((t693.length : Int) == 2) = true := beq_iff_eq.mpr c420
    have c420b1 : ((t693.length : Int) != 2) = false := bne_eq_false_iff_eq.mpr c420
    clear c420
    (first | rw [c420b0] | (simp only [i64_w, i32_w]; rw [c420b0]) | skip)
    obtain ⟨c421, H⟩ := sqI H
    have c421b0 : decide (0 < (t693.length : Int)) = true := decide_eq_true c421
    have c421b1 : decide (0 < t693.length) = true := decide_eq_true (by omega)
    clear c421
    have H' := Aside0.mk H
    clear H
    obtain ⟨Ao422, co422, eo422⟩ := Kd.R_slice HO695.out
    subst eo422
    have p696 : 0 ≤ (0 : Int) := (by omega)
    have q696 : 0 < (t693.length : Int) := of_decide_eq_true Z20
    obtain ⟨ad696, e696, hx696_0⟩ := Kd.at_string (Kd.R_reads' HO695.out).2.2 0 p696 q696
    cases e696
    have qi696 : (0 < t693.length) = True := eq_true (by omega)
    (try rw [show ((0 : Int)).toNat = 0 from rfl] at hx696_0)
    (try rw [Addr.add_zero'] at hx696_0)
    replace p696 := eq_true p696
    replace q696 := eq_true q696
    go_wp2
    go_meet
    case rel => exact ⟨_, (((rdOf ByteArray.empty t693 0).toList != ([99, 111, 108, 111, 117, 114, 115] : List UInt8))), Z2, H', ⟨Z12⟩, ⟨sqR HO695⟩, ⟨Kd.Q_of_R (Z54 HO653)⟩, ⟨sqK BK646⟩, ⟨sqK BK647⟩, ⟨sqK BK654⟩, ⟨sqK BK658⟩, ⟨sqK BK666⟩, ⟨Z49 GE646 GE647 GE654 GE658 GE666⟩⟩
   rw [if_neg c420] at H
   have c420b0 : ((t693.length : Int) == 2) = false := beq_eq_false_iff_ne.mpr c420
   have c420b1 : ((t693.length : Int) != 2) = true := bne_iff_ne.mpr c420
   (first | rw [c420b0] | (simp only [i64_w, i32_w]; rw [c420b0]) | skip)
   have H' := Aside0.mk H
   clear H
   obtain ⟨Ao423, co423, eo423⟩ := Kd.R_slice HO695.out
   subst eo423
   go_wp2
   go_meet
   case rel => exact ⟨_, (true), Z2, H', ⟨Z12⟩, ⟨sqR HO695⟩, ⟨Kd.Q_of_R (Z54 HO653)⟩, ⟨sqK BK646⟩, ⟨sqK BK647⟩, ⟨sqK BK654⟩, ⟨sqK BK658⟩, ⟨sqK BK666⟩, ⟨Z49 GE646 GE647 GE654 GE658 GE666⟩⟩
  case rest =>
   clear HC393
   try clear c4; try clear c99; try clear c229; try clear c229b0; try clear c229b1; try clear c265; try clear c265b0; try clear c265b1; try clear c300; try clear c300b0; try clear c300b1; try clear hcz397_0; try clear hcz397_1; try clear hcz397_2; try clear hcz399_0; try clear hcz399_1; try clear hcz399_2; try clear hcz404_0; try clear hcz404_1; try clear hcz404_2; try clear hcz411_0; try clear hcz411_1; try clear hcz412_0; try clear hcz412_1; try clear hcz412_2; try clear hcz418_0; try clear hcz418_1; try clear hfz397_0; try clear hfz397_1; try clear hfz397_2; try clear hfz399_0; try clear hfz399_1; try clear hfz399_2; try clear hfz404_0; try clear hfz404_1; try clear hfz404_2; try clear hfz411_0; try clear hfz411_1; try clear hfz412_0; try clear hfz412_1; try clear hfz412_2; try clear hfz418_0; try clear hfz418_1
   obtain ⟨kq, x128_392, rfl, HA, HJ392, HO_20, HO_655002, BK646, BK647, BK654, BK658, BK666, HB⟩ := hcut
   cases kq with
   | zero => exact absurd HA.out (by simp [spec_DeskLine.j0])
   | succ kj392 =>
    have H := HA.out
    clear HA
    simp only [spec_DeskLine.j0] at H
    by_cases c424 : x128_392 = true
    ·subst c424
     rw [if_pos rfl] at H
     obtain ⟨rfl, rfl, rfl, rfl⟩ := sqO4 H
     have hnb425 := NB654_646.out
     have hnc425 := NB646_654.out
     have hnb426 := NB654_647.out
     have hnc426 := NB647_654.out
     have hnb427 := NB654_658.out
     have hnc427 := NB658_654.out
     have hnb428 := NB654_666.out
     have hnc428 := NB666_654.out
     obtain ⟨hcz429_0, hcz429_1, hcz429_2, hfz429_0, hfz429_1, hfz429_2⟩ := sqY3 BK654
     have hnb430 := NB647_646.out
     have hnc430 := NB646_647.out
     have hnb431 := NB647_658.out
     have hnc431 := NB658_647.out
     have hnb432 := NB647_666.out
     have hnc432 := NB666_647.out
     obtain ⟨hcz433_0, hcz433_1, hcz433_2, hfz433_0, hfz433_1, hfz433_2⟩ := sqY3 BK647
     go_wp2
     refine bodyPost_ret (results_ct rfl _ _ gb647 34 #[.int .i64 t649, .int .i64 t650, .slice Ao21 t651.length co21] (0, 0) _ rfl (Z62 BK647) Tryz.underlying34 rfl (by kernel_rfl)) rfl ?_
     exact ⟨_, Z6, (by (with_reducible repeat (first | apply Kd.Q_alloc | apply Kd.Q_drewN | apply Kd.Q_drew)); exact Kd.Q_mono (Kd.Q_far (p := ⟨gb647, 2, none⟩) (Kd.Q_far (p := ⟨gb647, 1, none⟩) (Kd.Q_far (p := ⟨gb647, 0, none⟩) (Kd.Q_types HO_655002.out BK647.out (by decide)) (fun _ hk => hk.2) (.int .i64 t649)) (fun _ hk => hk.2) (.int .i64 t650)) (fun _ hk => hk.2) (.slice Ao21 t651.length co21)) (fun _ hk => trivial)), Z49 GE646 GE647 GE654 GE658 GE666⟩
    replace c424 := Bool.eq_false_iff.mpr c424
    subst c424
    rw [if_neg sqF] at H
    obtain ⟨c434, H⟩ := sqI H
    have c434b0 : decide (1 < (t693.length : Int)) = true := decide_eq_true c434
    have c434b1 : decide (1 < t693.length) = true := decide_eq_true (by omega)
    clear c434
    obtain ⟨⟨t698, t699⟩, A435, H⟩ := sqD H
    try dsimp only at H
    have HC436 := Aside0.mk H
    clear H
    obtain ⟨Ao437, co437, eo437⟩ := Kd.R_slice HO_20.out
    subst eo437
    have p697 : 0 ≤ (1 : Int) := (by omega)
    have q697 : 1 < (t693.length : Int) := of_decide_eq_true Z20
    obtain ⟨ad697, e697, hx697_0⟩ := Kd.at_string (Kd.R_reads' HO_20.out).2.2 1 p697 q697
    cases e697
    (try simp only [show (1 : Int).toNat = 1 from rfl, Nat.reduceMul, Nat.reduceEqDiff, Go.Addr.add, ↓reduceIte] at hx697_0)
    have qi697 : (1 < t693.length) = True := eq_true (by omega)
    (try rw [show ((1 : Int)).toNat = 1 from rfl] at hx697_0)
    replace p697 := eq_true p697
    replace q697 := eq_true q697
    go_upto_region 38 with (first | ((with_reducible refine gate_callee (f := 100) rfl ?_); refine sqC (some 134) Tryz.func100 #[.string (rdOf ByteArray.empty t693 1)] ?_; (with_reducible refine (spec_l1Digits.calls kj392 (rdOf ByteArray.empty t693 1) t698 t699 _ A435.out).mono ?_); rintro e w' ⟨rfl, ⟨nd, rfl⟩⟩; refine ⟨_, rfl, ?_⟩))
    (try simp only [Act.put, List.setIfInBounds_toArray, List.set_cons_zero, List.set_cons_succ])
    go_cut [142] (fun v142 wc => ∃ (kq : Nat) (x142_435 : Bool), v142 = .bool x142_435 ∧ Aside0 (spec_DeskLine.j1 kq t698 x142_435 t649 t650 t651 a0_0 a0_1 = some (r1, r2, r3, r4)) ∧ Aside0 (kq ≤ kj392) ∧ Aside0 (Kd.Q k31 31 wc w.heap.size (fun k_ => k_ ≠ gb666) (.slice Ao21 t651.length co21) t651) ∧ Aside0 (wc.heap[gb646]? = some (.cells #[.int .i64 a0_0, .int .i64 a0_1, (.slice A0_2 l0_2.length c0_2)] 34 (0, 0))) ∧ Aside0 (wc.heap[gb647]? = some (.cells #[.int .i64 0, .int .i64 0, (.slice none 0 0)] 34 (0, 0))) ∧ Aside0 (wc.heap[gb654]? = some (.cells #[.int .i64 t649, .int .i64 t650, (.slice Ao21 t651.length co21)] 34 (0, 0))) ∧ Aside0 (wc.heap[gb658]? = some (.cells #[.int .i64 t655, .string t656] 38 (0, 0))) ∧ Aside0 (wc.heap[gb666]? = some (.cells #[.int .i64 a0_0, .int .i64 a0_1] 31 (0, 0))) ∧ Aside0 (Below w.heap.size w wc))
    case first =>
     have H := HC436.out
     clear HC436
     by_cases c438 : t699 = true
     ·subst c438
      rw [if_pos rfl] at H
      have H' := Aside0.mk H
      clear H
      go_wp2
      go_meet
      case rel => exact ⟨_, (decide (t698 < 0)), Z2, H', ⟨by have := HJ392.out; first | omega | exact Nat.le_refl _⟩, ⟨Z46 HO_655002⟩, ⟨sqK BK646⟩, ⟨sqK BK647⟩, ⟨sqK BK654⟩, ⟨sqK BK658⟩, ⟨sqK BK666⟩, ⟨Z49 GE646 GE647 GE654 GE658 GE666⟩⟩
     replace c438 := Bool.eq_false_iff.mpr c438
     subst c438
     rw [if_neg sqF] at H
     have H' := Aside0.mk H
     clear H
     go_wp2
     go_meet
     case rel => exact ⟨_, (true), Z2, H', ⟨by have := HJ392.out; first | omega | exact Nat.le_refl _⟩, ⟨Z46 HO_655002⟩, ⟨sqK BK646⟩, ⟨sqK BK647⟩, ⟨sqK BK654⟩, ⟨sqK BK658⟩, ⟨sqK BK666⟩, ⟨Z49 GE646 GE647 GE654 GE658 GE666⟩⟩
    case rest =>
     clear HC436
     try clear c2; try clear p2; try clear c3; try clear c4; try clear c5; try clear p6; try clear q6; try clear hx6; try clear qi6; try clear c8; try clear c9; try clear c22; try clear c26; try clear c27; try clear c28; try clear c29; try clear c30; try clear c31; try clear c32; try clear c33; try clear c34; try clear c35; try clear c36; try clear c37; try clear c38; try clear c39; try clear c40; try clear c41; try clear c42; try clear c43; try clear c56; try clear p69; try clear q69; try clear hx69; try clear qi69; try clear c86; try clear c93; try clear c96; try clear c97; try clear c98; try clear c99; try clear c229; try clear c229b0; try clear c229b1; try clear c265; try clear c265b0; try clear c265b1; try clear c270; try clear c276; try clear c277; try clear c282; try clear c283; try clear c284; try clear c288; try clear c289; try clear c290; try clear c291; try clear c300; try clear c300b0; try clear c300b1; try clear c302; try clear c305; try clear c305b0; try clear c305b1; try clear c305b2; try clear c307; try clear c307b0; try clear c307b1; try clear c307b2; try clear c310; try clear c316; try clear c317; try clear c322; try clear c323; try clear c324; try clear c328; try clear c329; try clear c330; try clear c331; try clear c335; try clear c336; try clear c337; try clear c338; try clear c339; try clear c343; try clear c344; try clear c345; try clear c346; try clear c347; try clear c348; try clear c359; try clear c365; try clear c366; try clear c371; try clear c372; try clear c373; try clear c377; try clear c378; try clear c379; try clear c380; try clear c384; try clear c385; try clear c386; try clear c387; try clear c388; try clear c396; try clear c402; try clear c403; try clear c408; try clear c409; try clear c410; try clear c414; try clear c415; try clear c416; try clear c417; try clear c420; try clear c420b0; try clear c420b1; try clear c421; try clear c421b0; try clear c421b1; try clear c424; try clear c434; try clear c434b0; try clear c434b1; try clear hcz271_0; try clear hcz271_1; try clear hcz271_2; try clear hcz273_0; try clear hcz273_1; try clear hcz273_2; try clear hcz278_0; try clear hcz278_1; try clear hcz278_2; try clear hcz285_0; try clear hcz285_1; try clear hcz286_0; try clear hcz286_1; try clear hcz286_2; try clear hcz292_0; try clear hcz292_1; try clear hcz311_0; try clear hcz311_1; try clear hcz311_2; try clear hcz313_0; try clear hcz313_1; try clear hcz313_2; try clear hcz318_0; try clear hcz318_1; try clear hcz318_2; try clear hcz325_0; try clear hcz325_1; try clear hcz326_0; try clear hcz326_1; try clear hcz326_2; try clear hcz332_0; try clear hcz332_1; try clear hcz340_0; try clear hcz340_1; try clear hcz349_0; try clear hcz349_1; try clear hcz360_0; try clear hcz360_1; try clear hcz360_2; try clear hcz362_0; try clear hcz362_1; try clear hcz362_2; try clear hcz367_0; try clear hcz367_1; try clear hcz367_2; try clear hcz374_0; try clear hcz374_1; try clear hcz375_0; try clear hcz375_1; try clear hcz375_2; try clear hcz381_0; try clear hcz381_1; try clear hcz389_0; try clear hcz389_1; try clear hcz390_0; try clear hcz390_1; try clear hcz390_2; try clear hcz391_0; try clear hcz391_1; try clear hcz391_2; try clear hcz397_0; try clear hcz397_1; try clear hcz397_2; try clear hcz399_0; try clear hcz399_1; try clear hcz399_2; try clear hcz404_0; try clear hcz404_1; try clear hcz404_2; try clear hcz411_0; try clear hcz411_1; try clear hcz412_0; try clear hcz412_1; try clear hcz412_2; try clear hcz418_0; try clear hcz418_1; try clear hfz271_0; try clear hfz271_1; try clear hfz271_2; try clear hfz273_0; try clear hfz273_1; try clear hfz273_2; try clear hfz278_0; try clear hfz278_1; try clear hfz278_2; try clear hfz285_0; try clear hfz285_1; try clear hfz286_0; try clear hfz286_1; try clear hfz286_2; try clear hfz292_0; try clear hfz292_1; try clear hfz311_0; try clear hfz311_1; try clear hfz311_2; try clear hfz313_0; try clear hfz313_1; try clear hfz313_2; try clear hfz318_0; try clear hfz318_1; try clear hfz318_2; try clear hfz325_0; try clear hfz325_1; try clear hfz326_0; try clear hfz326_1; try clear hfz326_2; try clear hfz332_0; try clear hfz332_1; try clear hfz340_0; try clear hfz340_1; try clear hfz349_0; try clear hfz349_1; try clear hfz360_0; try clear hfz360_1; try clear hfz360_2; try clear hfz362_0; try clear hfz362_1; try clear hfz362_2; try clear hfz367_0; try clear hfz367_1; try clear hfz367_2; try clear hfz374_0; try clear hfz374_1; try clear hfz375_0; try clear hfz375_1; try clear hfz375_2; try clear hfz381_0; try clear hfz381_1; try clear hfz389_0; try clear hfz389_1; try clear hfz390_0; try clear hfz390_1; try clear hfz390_2; try clear hfz391_0; try clear hfz391_1; try clear hfz391_2; try clear hfz397_0; try clear hfz397_1; try clear hfz397_2; try clear hfz399_0; try clear hfz399_1; try clear hfz399_2; try clear hfz404_0; try clear hfz404_1; try clear hfz404_2; try clear hfz411_0; try clear hfz411_1; try clear hfz412_0; try clear hfz412_1; try clear hfz412_2; try clear hfz418_0; try clear hfz418_1; try clear hx696_0; try clear hx697_0; try clear p2; try clear p6; try clear p69; try clear p696; try clear p697; try clear q6; try clear q69; try clear q696; try clear q697
     obtain ⟨kq, x142_435, rfl, HA, HJ435, HO_655002, BK646, BK647, BK654, BK658, BK666, HB⟩ := hcut
     cases kq with
     | zero => exact absurd HA.out (by simp [spec_DeskLine.j1])
     | succ kj435 =>
      have H := HA.out
      clear HA
      simp only [spec_DeskLine.j1] at H
      by_cases c439 : x142_435 = true
      ·subst c439
       rw [if_pos rfl] at H
       obtain ⟨rfl, rfl, rfl, rfl⟩ := sqO4 H
       have hnb440 := NB654_646.out
       have hnc440 := NB646_654.out
       have hnb441 := NB654_647.out
       have hnc441 := NB647_654.out
       have hnb442 := NB654_658.out
       have hnc442 := NB658_654.out
       have hnb443 := NB654_666.out
       have hnc443 := NB666_654.out
       obtain ⟨hcz444_0, hcz444_1, hcz444_2, hfz444_0, hfz444_1, hfz444_2⟩ := sqY3 BK654
       have hnb445 := NB647_646.out
       have hnc445 := NB646_647.out
       have hnb446 := NB647_658.out
       have hnc446 := NB658_647.out
       have hnb447 := NB647_666.out
       have hnc447 := NB666_647.out
       obtain ⟨hcz448_0, hcz448_1, hcz448_2, hfz448_0, hfz448_1, hfz448_2⟩ := sqY3 BK647
       go_wp2
       refine bodyPost_ret (results_ct rfl _ _ gb647 34 #[.int .i64 t649, .int .i64 t650, .slice Ao21 t651.length co21] (0, 0) _ rfl (Z62 BK647) Tryz.underlying34 rfl (by kernel_rfl)) rfl ?_
       exact ⟨_, Z6, (by (with_reducible repeat (first | apply Kd.Q_alloc | apply Kd.Q_drewN | apply Kd.Q_drew)); exact Kd.Q_mono (Kd.Q_far (p := ⟨gb647, 2, none⟩) (Kd.Q_far (p := ⟨gb647, 1, none⟩) (Kd.Q_far (p := ⟨gb647, 0, none⟩) (Kd.Q_types HO_655002.out BK647.out (by decide)) (fun _ hk => hk.2) (.int .i64 t649)) (fun _ hk => hk.2) (.int .i64 t650)) (fun _ hk => hk.2) (.slice Ao21 t651.length co21)) (fun _ hk => trivial)), Z49 GE646 GE647 GE654 GE658 GE666⟩
      replace c439 := Bool.eq_false_iff.mpr c439
      subst c439
      rw [if_neg sqF] at H
      obtain ⟨t700, A449, H⟩ := sqD H
      by_cases c450 : t700 = true
      ·subst c450
       rw [if_pos rfl] at H
       obtain ⟨t701, A451, H⟩ := sqD H
       obtain ⟨t702, A452, H⟩ := sqD H
       obtain ⟨rfl, rfl, rfl, rfl⟩ := sqO4 H
       try go_wp2_with (first | ((with_reducible refine gate_callee (f := 101) rfl ?_); refine sqC (some 145) Tryz.func101 #[.int .i64 t698, .int .i64 1, .int .i64 12] ?_; (with_reducible refine (spec_l1In.calls t698 1 12 true _ A449.out).mono ?_); rintro e w' ⟨rfl, ⟨nd, rfl⟩⟩; refine ⟨_, rfl, ?_⟩; (try (rw [drewN_self wc]; generalize hq_ : World.drewN wc _ = wc; have n0_ : Aside0 (Kd.Q k31 31 wc w.heap.size (fun k_ => k_ ≠ gb666) (.slice Ao21 t651.length co21) t651) := ⟨by rw [← hq_]; exact (Z46 HO_655002)⟩; have n1_ : Aside0 (wc.heap[gb646]? = some (.cells #[.int .i64 a0_0, .int .i64 a0_1, .slice A0_2 l0_2.length c0_2] 34 (0, 0))) := ⟨Z26 BK646⟩; have n2_ : Aside0 (wc.heap[gb647]? = some (.cells #[.int .i64 0, .int .i64 0, .slice none 0 0] 34 (0, 0))) := ⟨Z26 BK647⟩; have n3_ : Aside0 (wc.heap[gb654]? = some (.cells #[.int .i64 t649, .int .i64 t650, .slice Ao21 t651.length co21] 34 (0, 0))) := ⟨Z26 BK654⟩; have n4_ : Aside0 (wc.heap[gb658]? = some (.cells #[.int .i64 t655, .string t656] 38 (0, 0))) := ⟨Z26 BK658⟩; have n5_ : Aside0 (wc.heap[gb666]? = some (.cells #[.int .i64 a0_0, .int .i64 a0_1] 31 (0, 0))) := ⟨Z26 BK666⟩; have n6_ : Aside0 (Below w.heap.size w wc) := ⟨by rw [← hq_]; exact (Z49 GE646 GE647 GE654 GE658 GE666)⟩; clear HO_655002 BK646 BK647 BK654 BK658 BK666 HB hq_; have HO_655002 := n0_; have BK646 := n1_; have BK647 := n2_; have BK654 := n3_; have BK658 := n4_; have BK666 := n5_; have HB := n6_; clear n0_ n1_ n2_ n3_ n4_ n5_ n6_))))
       replace HO_655002 := Aside0.mk (Kd.Q_drew HO_655002.out)
       replace BK646 := Aside0.mk (blk_drew BK646.out)
       replace BK647 := Aside0.mk (blk_drew BK647.out)
       replace BK654 := Aside0.mk (blk_drew BK654.out)
       replace BK658 := Aside0.mk (blk_drew BK658.out)
       replace BK666 := Aside0.mk (blk_drew BK666.out)
       replace HB := Aside0.mk (below_drew1 HB.out)
       refine start_ (n := 7) (S := fun w' => w'.cell? ⟨gb654, 0, none⟩ = some (.int .i64 t649) ∧ w'.cell? ⟨gb654, 1, none⟩ = some (.int .i64 t650) ∧ w'.cell? ⟨gb654, 2, none⟩ = some (.slice Ao21 t651.length co21) ∧ w'.cell? ⟨gb666, 0, none⟩ = some (.int .i64 a0_0) ∧ w'.cell? ⟨gb666, 1, none⟩ = some (.int .i64 a0_1)) (ds := []) #[false, false, false, false, false, false, false] (by kernel_rfl) rfl rfl ⟨(blk_cell BK654.out 0).trans rfl, (blk_cell BK654.out 1).trans rfl, (blk_cell BK654.out 2).trans rfl, (blk_cell BK666.out 0).trans rfl, (blk_cell BK666.out 1).trans rfl⟩ (fun hHeld => ?_)
       generalize wc.drew = w453 at HO_655002 BK646 BK647 BK654 BK658 BK666 HB hHeld ⊢
       refine sqPk (i := 2) (N := some 150) (h := ?_)
       refine sqQk (i := 0) (N := some 148) hHeld (h := ?_)
       refine sqQk (i := 1) (N := some 149) hHeld (h := ?_)
       refine one_ (i := 3) (N := some 151) #[true, true, true, true, false, false, false] rfl rfl (by kernel_rfl) (by decide) (fun K hK => ?_)
       refine goes_ Tryz.func102 (by kernel_rfl) rfl #[.agg #[.int .i64 a0_0, .int .i64 a0_1], .int .i64 t698] (by rfl) rfl rfl sqA ?_
       with_reducible refine (spec_TiedFor.calls kj435 a0_0 a0_1 t698 t701 _ A451.out).mono ?_
       rintro e w454 ⟨rfl, hb⟩
       refine ⟨_, rfl, ?_⟩
       replace HO_655002 := Aside0.mk (Kd.Q_below (Z46 HO_655002) hb)
       replace BK646 := sqT BK646 hb
       replace BK647 := sqT BK647 hb
       replace BK654 := sqT BK654 hb
       replace BK658 := sqT BK658 hb
       replace BK666 := sqT BK666 hb
       replace HB := Aside0.mk (below_step (Z49 GE646 GE647 GE654 GE658 GE666) hb)
       (try clear hb)
       (try clear hb2)
       (try clear hk)
       (try clear hi)
       refine hK.out _ _ ⟨(blk_cell BK654.out 0).trans rfl, (blk_cell BK654.out 1).trans rfl, (blk_cell BK654.out 2).trans rfl, (blk_cell BK666.out 0).trans rfl, (blk_cell BK666.out 1).trans rfl⟩ (fun hHeld => ?_)
       clear hK K
       refine sqN (some 151) ?_
       refine one_ (i := 4) (N := some 152) #[true, true, true, true, true, false, false] rfl rfl (by kernel_rfl) (by decide) (fun K hK => ?_)
       refine goes_ Tryz.func93 (by kernel_rfl) rfl #[.int .i64 t701] (by rfl) rfl rfl sqA ?_
       with_reducible refine (spec_l1Number.calls kj435 t701 t702 _ A452.out).mono ?_
       rintro e w455 ⟨rfl, hb⟩
       refine ⟨_, rfl, ?_⟩
       replace HO_655002 := Aside0.mk (Kd.Q_below (Z46 HO_655002) hb)
       replace BK646 := sqT BK646 hb
       replace BK647 := sqT BK647 hb
       replace BK654 := sqT BK654 hb
       replace BK658 := sqT BK658 hb
       replace BK666 := sqT BK666 hb
       replace HB := Aside0.mk (below_step (Z49 GE646 GE647 GE654 GE658 GE666) hb)
       (try clear hb)
       (try clear hb2)
       (try clear hk)
       (try clear hi)
       refine hK.out _ _ ⟨(blk_cell BK654.out 0).trans rfl, (blk_cell BK654.out 1).trans rfl, (blk_cell BK654.out 2).trans rfl, (blk_cell BK666.out 0).trans rfl, (blk_cell BK666.out 1).trans rfl⟩ (fun hHeld => ?_)
       clear hK K
       refine sqN (some 152) ?_
       refine one_ (i := 5) (N := none) #[true, true, true, true, true, true, false] rfl rfl (by kernel_rfl) (by decide) (fun K hK => ?_)
       have hs456 : w455.cell? ⟨gb647, 0, none⟩ = some (.int .i64 0) := (blk_cell BK647.out 0).trans rfl
       have hfs456 := blk_frozen BK647.out 0
       have hns456_0 := NB646_647.out
       have hns456_2 := NB654_647.out
       have hns456_3 := NB658_647.out
       have hns456_4 := NB666_647.out
       have hms456_0 := NB647_646.out
       have hms456_2 := NB647_654.out
       have hms456_3 := NB647_658.out
       have hms456_4 := NB647_666.out
       have hs457 : w455.cell? ⟨gb647, 1, none⟩ = some (.int .i64 0) := (blk_cell BK647.out 1).trans rfl
       have hfs457 := blk_frozen BK647.out 1
       have hs458 : w455.cell? ⟨gb647, 2, none⟩ = some (.slice none 0 0) := (blk_cell BK647.out 2).trans rfl
       have hfs458 := blk_frozen BK647.out 2
       refine skip_ (w1 := ?_) (by rfl) rfl ?_ ?_
       rotate_left
       ·go_simp
        rfl
       refine hK.out _ _ ⟨((cell_far (p := ⟨gb647, _, none⟩) NB654_647.out _).trans (((cell_far (p := ⟨gb647, _, none⟩) NB654_647.out _).trans (((cell_far (p := ⟨gb647, _, none⟩) NB654_647.out _).trans (hHeld.1)))))), ((cell_far (p := ⟨gb647, _, none⟩) NB654_647.out _).trans (((cell_far (p := ⟨gb647, _, none⟩) NB654_647.out _).trans (((cell_far (p := ⟨gb647, _, none⟩) NB654_647.out _).trans (hHeld.2.1)))))), ((cell_far (p := ⟨gb647, _, none⟩) NB654_647.out _).trans (((cell_far (p := ⟨gb647, _, none⟩) NB654_647.out _).trans (((cell_far (p := ⟨gb647, _, none⟩) NB654_647.out _).trans (hHeld.2.2.1)))))), ((cell_far (p := ⟨gb647, _, none⟩) NB666_647.out _).trans (((cell_far (p := ⟨gb647, _, none⟩) NB666_647.out _).trans (((cell_far (p := ⟨gb647, _, none⟩) NB666_647.out _).trans (hHeld.2.2.2.1)))))), ((cell_far (p := ⟨gb647, _, none⟩) NB666_647.out _).trans (((cell_far (p := ⟨gb647, _, none⟩) NB666_647.out _).trans (((cell_far (p := ⟨gb647, _, none⟩) NB666_647.out _).trans (hHeld.2.2.2.2))))))⟩ (fun hHeld => ?_)
       clear hK K
       refine sqPk (i := 6) (N := some 5) (h := ?_)
       refine done_ (by kernel_rfl) ?_
       try go_wp2
       refine bodyPost_ret (results_ct rfl _ _ gb647 34 #[.int .i64 t649, .int .i64 t650, .slice Ao21 t651.length co21] (0, 0) _ rfl (Z62 BK647) Tryz.underlying34 rfl (by kernel_rfl)) rfl ?_
       exact ⟨_, Z6, (by (with_reducible repeat (first | apply Kd.Q_alloc | apply Kd.Q_drewN | apply Kd.Q_drew)); exact Kd.Q_mono (Kd.Q_far (p := ⟨gb647, 2, none⟩) (Kd.Q_far (p := ⟨gb647, 1, none⟩) (Kd.Q_far (p := ⟨gb647, 0, none⟩) (Kd.Q_types HO_655002.out BK647.out (by decide)) (fun _ hk => hk.2) (.int .i64 t649)) (fun _ hk => hk.2) (.int .i64 t650)) (fun _ hk => hk.2) (.slice Ao21 t651.length co21)) (fun _ hk => trivial)), Z49 GE646 GE647 GE654 GE658 GE666⟩
      replace c450 := Bool.eq_false_iff.mpr c450
      subst c450
      rw [if_neg sqF] at H
      obtain ⟨rfl, rfl, rfl, rfl⟩ := sqO4 H
      go_wp2_with (first | ((with_reducible refine gate_callee (f := 101) rfl ?_); refine sqC (some 145) Tryz.func101 #[.int .i64 t698, .int .i64 1, .int .i64 12] ?_; (with_reducible refine (spec_l1In.calls t698 1 12 false _ A449.out).mono ?_); rintro e w' ⟨rfl, ⟨nd, rfl⟩⟩; refine ⟨_, rfl, ?_⟩; (try (rw [drewN_self wc]; generalize hq_ : World.drewN wc _ = wc; have n0_ : Aside0 (Kd.Q k31 31 wc w.heap.size (fun k_ => k_ ≠ gb666) (.slice Ao21 t651.length co21) t651) := ⟨by rw [← hq_]; exact (Z46 HO_655002)⟩; have n1_ : Aside0 (wc.heap[gb646]? = some (.cells #[.int .i64 a0_0, .int .i64 a0_1, .slice A0_2 l0_2.length c0_2] 34 (0, 0))) := ⟨Z26 BK646⟩; have n2_ : Aside0 (wc.heap[gb647]? = some (.cells #[.int .i64 0, .int .i64 0, .slice none 0 0] 34 (0, 0))) := ⟨Z26 BK647⟩; have n3_ : Aside0 (wc.heap[gb654]? = some (.cells #[.int .i64 t649, .int .i64 t650, .slice Ao21 t651.length co21] 34 (0, 0))) := ⟨Z26 BK654⟩; have n4_ : Aside0 (wc.heap[gb658]? = some (.cells #[.int .i64 t655, .string t656] 38 (0, 0))) := ⟨Z26 BK658⟩; have n5_ : Aside0 (wc.heap[gb666]? = some (.cells #[.int .i64 a0_0, .int .i64 a0_1] 31 (0, 0))) := ⟨Z26 BK666⟩; have n6_ : Aside0 (Below w.heap.size w wc) := ⟨by rw [← hq_]; exact (Z49 GE646 GE647 GE654 GE658 GE666)⟩; clear HO_655002 BK646 BK647 BK654 BK658 BK666 HB hq_; have HO_655002 := n0_; have BK646 := n1_; have BK647 := n2_; have BK654 := n3_; have BK658 := n4_; have BK666 := n5_; have HB := n6_; clear n0_ n1_ n2_ n3_ n4_ n5_ n6_)); have hnb459 := NB654_646.out; have hnc459 := NB646_654.out; have hnb460 := NB654_647.out; have hnc460 := NB647_654.out; have hnb461 := NB654_658.out; have hnc461 := NB658_654.out; have hnb462 := NB654_666.out; have hnc462 := NB666_654.out; obtain ⟨hcz463_0, hcz463_1, hcz463_2, hfz463_0, hfz463_1, hfz463_2⟩ := sqY3 BK654; have hnb464 := NB647_646.out; have hnc464 := NB646_647.out; have hnb465 := NB647_658.out; have hnc465 := NB658_647.out; have hnb466 := NB647_666.out; have hnc466 := NB666_647.out; obtain ⟨hcz467_0, hcz467_1, hcz467_2, hfz467_0, hfz467_1, hfz467_2⟩ := sqY3 BK647))
      refine bodyPost_ret (results_ct rfl _ _ gb647 34 #[.int .i64 t649, .int .i64 t650, .slice Ao21 t651.length co21] (0, 0) _ rfl (Z62 BK647) Tryz.underlying34 rfl (by kernel_rfl)) rfl ?_
      exact ⟨_, Z6, (by (with_reducible repeat (first | apply Kd.Q_alloc | apply Kd.Q_drewN | apply Kd.Q_drew)); exact Kd.Q_mono (Kd.Q_far (p := ⟨gb647, 2, none⟩) (Kd.Q_far (p := ⟨gb647, 1, none⟩) (Kd.Q_far (p := ⟨gb647, 0, none⟩) (Kd.Q_types HO_655002.out BK647.out (by decide)) (fun _ hk => hk.2) (.int .i64 t649)) (fun _ hk => hk.2) (.int .i64 t650)) (fun _ hk => hk.2) (.slice Ao21 t651.length co21)) (fun _ hk => trivial)), Z49 GE646 GE647 GE654 GE658 GE666⟩
 replace c4 := Bool.eq_false_iff.mpr c4
 subst c4
 rw [if_neg sqF] at H
 obtain ⟨rfl, rfl, rfl, rfl⟩ := sqO4 H
 go_wp2_with fail
 refine bodyPost_ret (results_ct rfl _ _ gb647 34 #[.int .i64 0, .int .i64 0, .slice none 0 0] (0, 0) _ rfl (Z17 BK647) Tryz.underlying34 rfl (by kernel_rfl)) rfl ?_
 exact ⟨_, Z6, Kd.Q_of_R Z18, sqB2 HB GE646 GE647⟩

end Go.Proofs.YtofmlbgfcohhoaaGreatDoor.PFnExactDeskLine
