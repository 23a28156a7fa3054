import Derived.Test.YtofmlbgfcohhoaaGreatDoorPFnExactDeskSayx10
import Derived.Test.YtofmlbgfcohhoaaGreatDoorPFnExactDeskSayx11
import Derived.Test.YtofmlbgfcohhoaaGreatDoorPFnExactDeskSayx12
import Derived.Test.YtofmlbgfcohhoaaGreatDoorPFnExactDeskSayx13
set_option maxHeartbeats 8000000
set_option maxRecDepth 100000
namespace Go.Proofs.YtofmlbgfcohhoaaGreatDoor.PFnExactDeskSay
open Go.RowKit Go.Proofs.YtofmlbgfcohhoaaGreatDoorW.PrintWords Go.Proofs.YtofmlbgfcohhoaaGreatDoorW.PrintLast Go.Proofs.YtofmlbgfcohhoaaGreatDoorW.PrintMore Go.Proofs.YtofmlbgfcohhoaaGreatDoor.Lib Go.Proofs.Tryz
attribute [local go_sem] max2_int min2_int max_two min_two max_three min_three max_four min_four   -- for this text's walks alone
set_option linter.unusedVariables false
set_option linter.unusedSimpArgs false

/-! ### spec_DeskLine: function 43 -/
mutual
def spec_DeskLine.j0 : Nat → List ByteArray → Bool → Int → Int → List (S31) → Int → Int → Option (Int × Int × (List (S31)) × ByteArray)
 | 0, _, _, _, _, _, _, _ => none
 | k + 1, x20, x0, x1, x2, x3, x4, x5 => if x0 = true then (some (x1, x2, x3, (⟨#[119, 104, 97, 116]⟩ : ByteArray))) else (if 1 < (x20.length : Int) then ((spec_l1Digits.f k (rdOf ByteArray.empty x20 1)).bind fun bt0 => (if bt0.2 = true then (spec_DeskLine.j1 k bt0.1 (decide (bt0.1 < 0)) x1 x2 x3 x4 x5) else (spec_DeskLine.j1 k bt0.1 true x1 x2 x3 x4 x5))) else (none))
def spec_DeskLine.j1 : Nat → Int → Bool → Int → Int → List (S31) → Int → Int → Option (Int × Int × (List (S31)) × ByteArray)
 | 0, _, _, _, _, _, _, _ => none
 | k + 1, x21, x0, x1, x2, x3, x4, x5 => if x0 = true then (some (x1, x2, x3, (⟨#[119, 104, 97, 116]⟩ : ByteArray))) else ((spec_l1In.f x21 1 12).bind fun t0 => (if t0 = true then ((spec_TiedFor.f k x4 x5 x21).bind fun t1 => ((spec_l1Number.f k t1).bind fun t2 => (some (x1, x2, x3, t2)))) else (some (x1, x2, x3, (⟨#[110, 111, 110, 101]⟩ : ByteArray)))))
end
def spec_DeskLine.f (k : Nat) (a0_0 : Int) (a0_1 : Int) (l0_2 : List (S31)) (a1 : ByteArray) : Option (Int × Int × (List (S31)) × ByteArray) := (spec_DeskOk.f k a0_0 a0_1 l0_2).bind fun t0 => (if t0 = true then ((spec_l11Copy.f a0_0 a0_1 l0_2).bind fun bt0 => ((spec_ReadDeed.f k a1).bind fun bt1 => (if bt1.2.2 = true then ((spec_DeskDo.f k a0_0 a0_1 l0_2 bt1.1 bt1.2.1).bind fun bt2 => (if bt2.2.2.2 = true then (some (bt2.1, bt2.2.1, bt2.2.2.1, (⟨#[111, 107]⟩ : ByteArray))) else (some (bt2.1, bt2.2.1, bt2.2.2.1, (⟨#[110, 111, 116]⟩ : ByteArray))))) else (if a1.toList = ([116, 101, 120, 116] : List UInt8) then ((spec_FractionText.f k a0_0 a0_1).bind fun t1 => (some (bt0.1, bt0.2.1, bt0.2.2, t1))) else (if a1.toList = ([109, 111, 118, 101, 115] : List UInt8) then ((spec_UntiedOf.f k a0_0 a0_1).bind fun bt3 => (if bt3.2 = true then (if 1 + bt3.1.size ≤ 9223372036854775807 then (some (bt0.1, bt0.2.1, bt0.2.2, (⟨#[58]⟩ : ByteArray) ++ bt3.1)) else (none)) else (some (bt0.1, bt0.2.1, bt0.2.2, (⟨#[110, 111, 110, 101]⟩ : ByteArray))))) else (if a1.toList = ([116, 101, 114, 109, 115] : List UInt8) then ((spec_TermsOf.f k a0_0 a0_1).bind fun bt4 => ((spec_l11Row.f k bt4.1).bind fun t2 => (some (bt0.1, bt0.2.1, bt0.2.2, t2)))) else (if a1.toList = ([99, 114, 111, 115, 115, 105, 110, 103, 115] : List UInt8) then ((spec_CrossingsOf.f k a0_0 a0_1).bind fun t3 => ((spec_l1Number.f k t3).bind fun t4 => (some (bt0.1, bt0.2.1, bt0.2.2, t4)))) else (if a1.toList = ([101, 110, 100, 115] : List UInt8) then ((spec_EndsFor.f k a0_0 a0_1).bind fun t5 => ((spec_l11Row.f k t5).bind fun t6 => (some (bt0.1, bt0.2.1, bt0.2.2, t6)))) else (if a1.toList = ([114, 105, 110, 103, 115] : List UInt8) then ((spec_RingsOf.f k a0_0 a0_1).bind fun t7 => ((spec_l1Number.f k t7).bind fun t8 => (some (bt0.1, bt0.2.1, bt0.2.2, t8)))) else (if a1.toList = ([108, 105, 110, 107] : List UInt8) then ((spec_LinkOf.f k a0_0 a0_1).bind fun bt5 => (if bt5.2.2 = true then ((spec_LeastOf.f k bt5.1 bt5.2.1).bind fun bt6 => ((spec_l1Number.f k bt6.1).bind fun t9 => (if t9.size + 1 ≤ 9223372036854775807 then ((spec_l1Number.f k bt6.2.1).bind fun t10 => (if (t9 ++ (⟨#[58]⟩ : ByteArray)).size + t10.size ≤ 9223372036854775807 then (some (bt0.1, bt0.2.1, bt0.2.2, (t9 ++ (⟨#[58]⟩ : ByteArray)) ++ t10)) else (none))) else (none)))) else (some (bt0.1, bt0.2.1, bt0.2.2, (⟨#[110, 111, 110, 101]⟩ : ByteArray))))) else ((spec_l1Cut.f k a1 32).bind fun t11 => (if (t11.length : Int) = 2 then (if 0 < (t11.length : Int) then (spec_DeskLine.j0 k t11 ((rdOf ByteArray.empty t11 0).toList != ([99, 111, 108, 111, 117, 114, 115] : List UInt8)) bt0.1 bt0.2.1 bt0.2.2 a0_0 a0_1) else (none)) else (spec_DeskLine.j0 k t11 true bt0.1 bt0.2.1 bt0.2.2 a0_0 a0_1))))))))))))) else (some (0, 0, ([] : List (S31)), (⟨#[]⟩ : ByteArray))))
abbrev spec_DeskLine.M (k : Nat) : Prop := (∀ y0 y1 y2 y3 y4 y5 y6, LeO (spec_DeskLine.j0 k y0 y1 y2 y3 y4 y5 y6) (spec_DeskLine.j0 (k + 1) y0 y1 y2 y3 y4 y5 y6)) ∧ (∀ y0 y1 y2 y3 y4 y5 y6, LeO (spec_DeskLine.j1 k y0 y1 y2 y3 y4 y5 y6) (spec_DeskLine.j1 (k + 1) y0 y1 y2 y3 y4 y5 y6))
theorem spec_DeskLine.mono_t : ∀ k, spec_DeskLine.M k → spec_DeskLine.M (k + 1) ∧ ∀ a0 a1 a2 a3, LeO (spec_DeskLine.f k a0 a1 a2 a3) (spec_DeskLine.f (k + 1) a0 a1 a2 a3) := by
  rintro k ⟨ih0, ih1⟩
  refine ⟨⟨?_, ?_⟩, ?_⟩ <;> intros <;> (first | unfold spec_DeskLine.j0 | unfold spec_DeskLine.j1 | unfold spec_DeskLine.f) <;> repeat' (with_reducible first | exact ih0 _ _ _ _ _ _ _ | exact ih1 _ _ _ _ _ _ _ | exact spec_CrossingsOf.mono _ _ _ | exact spec_DeskDo.mono _ _ _ _ _ _ | exact spec_DeskOk.mono _ _ _ _ | exact spec_EndsFor.mono _ _ _ | exact spec_FractionText.mono _ _ _ | exact spec_LeastOf.mono _ _ _ | exact spec_LinkOf.mono _ _ _ | exact spec_ReadDeed.mono _ _ | exact spec_RingsOf.mono _ _ _ | exact spec_TermsOf.mono _ _ _ | exact spec_TiedFor.mono _ _ _ _ | exact spec_UntiedOf.mono _ _ _ | exact spec_l11Row.mono _ _ | exact spec_l1Cut.mono _ _ _ | exact spec_l1Digits.mono _ _ | exact spec_l1Number.mono _ _ | exact LeO.refl _ | exact LeO.none _ | refine LeO.ite ?_ ?_ | refine LeO.bind ?_ fun _ => ?_)
theorem spec_DeskLine.mono_l : ∀ k, spec_DeskLine.M k
 | 0 => ⟨fun _ _ _ _ _ _ _ r h => by simp [spec_DeskLine.j0] at h, fun _ _ _ _ _ _ _ r h => by simp [spec_DeskLine.j1] at h⟩
 | k + 1 => (spec_DeskLine.mono_t k (spec_DeskLine.mono_l k)).1
theorem spec_DeskLine.mono a0 a1 a2 a3 k : LeO (spec_DeskLine.f k a0 a1 a2 a3) (spec_DeskLine.f (k + 1) a0 a1 a2 a3) := (spec_DeskLine.mono_t k (spec_DeskLine.mono_l k)).2 a0 a1 a2 a3
def spec_DeskLine.T33 : Bool × List (List Nat × List Nat) := (true, [([], []), ([], []), ([1], [1]), ([2], [2]), ([3], [3]), ([], []), ([5], [5]), ([6, 3], [6]), ([4, 7], [4, 7]), ([0, 7, 0], [0]), ([8, 9, 0, 1, 2, 3, 4, 5, 6, 7, 8, 9], [8])])
def spec_DeskLine.B33 : List Nat := [0, 0, 2, 6, 14, 0, 32, 110, 254, 239, 1023]
theorem spec_DeskLine.tab33 : rtab .any (opsOf f43 33) = spec_DeskLine.T33 := by kernel_rfl
theorem spec_DeskLine.bits33 : waitsOk spec_DeskLine.T33.2 spec_DeskLine.B33 = true := by kernel_rfl
theorem spec_DeskLine.calls (k : Nat) (a0_0 : Int) (a0_1 : Int) (A0_2 : Option Addr) (c0_2 : Nat) (l0_2 : List (S31)) (a1 : ByteArray) (r1 : Int) (r2 : Int) (r3 : List (S31)) (r4 : ByteArray) (w : World) (hr0_2 : Kd.C k31 w A0_2 l0_2.length l0_2) (hc0_2 : l0_2.length ≤ c0_2) (H : spec_DeskLine.f k a0_0 a0_1 l0_2 a1 = some (r1, r2, r3, r4)) :
  Calls prog 43 #[.agg #[.int .i64 a0_0, .int .i64 a0_1, .slice A0_2 l0_2.length c0_2], .string a1] w fun e w' => ∃ v2_ : Value, e = .returned (.tuple #[.agg #[.int .i64 r1, .int .i64 r2, v2_], .string r4]) ∧ Kd.Q k31 31 w' w.heap.size (fun _ => True) v2_ r3 ∧ Below w.heap.size w w' := by
 have hu34 := underlying34
 have hu38 := underlying38
 have hu31 := underlying31
 have hu116 := underlying116
 have HR0_2 := sqa hr0_2
 have HC0_2 := sqa hc0_2
 clear hr0_2 hc0_2
 have HB := sqh w
 unfold spec_DeskLine.f at H
 obtain ⟨t0, A3, H⟩ := sqD H
 go_enter func43, ntmps43
 go_upto_if 25 with (first | ((with_reducible refine sqd 2 rfl ?_); refine sqBx w (sqB HB) (cs := #[.int .i64 a0_0, .int .i64 a0_1, .slice A0_2 l0_2.length c0_2]) (t := 34) ?_; intro gb390 hg w10 B0 E0 HB hb; clear hb hg) | ((with_reducible refine sqd 4 rfl ?_); refine sqBx w (sqB1 HB E0) (cs := #[.int .i64 0, .int .i64 0, .slice none 0 0]) (t := 34) ?_; intro gb391 hg w11 B2 E1 HB hb; obtain ⟨N0, N1⟩ := sqM hg B0; replace B0 := sqT B0 hb; clear hb hg; have := N0.1; have := N1.1; obtain ⟨_, _, _, _, _, _⟩ := sqY3 B0) | ((with_reducible refine sqc 30 rfl ?_); refine sqC (some 24) func30 #[.agg #[.int .i64 a0_0, .int .i64 a0_1, .slice A0_2 l0_2.length c0_2]] ?_; (with_reducible refine (spec_DeskOk.calls k a0_0 a0_1 _ _ l0_2 t0 _ ?side1 ?side2 A3.1).mono ?_); (case side1 => exact Z2); (case side2 => exact Z3); refine sqV fun w14 hb => ?_; replace B0 := sqT B0 hb; replace B2 := sqT B2 hb; replace HB := sqS (sqB2 HB E0 E1) hb; (try clear hb); obtain ⟨_, _, _, _, _, _⟩ := sqY3 B0; obtain ⟨_, _, _, _, _, _⟩ := sqY3 B2))
 by_cases c4 : t0 = true
 ·subst c4
  rw [if_pos rfl] at H
  obtain ⟨⟨t393, t394, t1⟩, A5, H⟩ := sqD H
  try dsimp only at H
  obtain ⟨⟨t399, t400, t2⟩, A6, H⟩ := sqD H
  try dsimp only at H
  go_upto_if 34 with (first | ((with_reducible refine sqc 56 rfl ?_); refine sqC (some 28) func56 #[.agg #[.int .i64 a0_0, .int .i64 a0_1, .slice A0_2 l0_2.length c0_2]] ?_; (with_reducible refine (spec_l11Copy.calls a0_0 a0_1 _ _ l0_2 t393 t394 t1 _ ?side1 ?side2 A5.1).mono ?_); (case side1 => exact Z2); (case side2 => exact Z3); rintro e w16 ⟨v0, rfl, ho0, hb⟩; refine ⟨_, rfl, ?_⟩; have O0 := sqL ho0 (sqB2 HB E0 E1); replace B0 := sqT B0 hb; replace B2 := sqT B2 hb; replace HB := sqS (sqB2 HB E0 E1) hb; (try clear hb); (try clear ho0)) | ((with_reducible refine sqd 6 rfl ?_); refine sqBx w (sqB2 HB E0 E1) (cs := #[.int .i64 0, .int .i64 0, .slice none 0 0]) (t := 34) ?_; intro g0 hg w17 B9 E2 HB hb; replace O0 := sqU O0 hb; obtain ⟨N2, N3⟩ := sqM hg B0; replace B0 := sqT B0 hb; obtain ⟨N4, N5⟩ := sqM hg B2; replace B2 := sqT B2 hb; clear hb hg; obtain ⟨Ao21, co21, eo21⟩ := Kd.R_slice O0.1; subst eo21; have := N3.1; have := N2.1; have := N5.1; have := N4.1; obtain ⟨_, _, _, _, _, _⟩ := sqY3 B9) | ((with_reducible refine sqc 86 rfl ?_); refine sqC (some 31) func86 #[.string a1] ?_; (with_reducible refine (spec_ReadDeed.calls k a1 t399 t400 t2 _ A6.1).mono ?_); refine sqV fun w22 hb => ?_; replace O0 := sqa (Kd.R_below (by (with_reducible repeat (first | apply Kd.R_alloc | apply Kd.R_drewN | apply Kd.R_drew)); exact (Kd.R_mono (sqr3 O0.1 B9.1) (fun _ h_ => h_.1))) hb); replace B0 := sqH N2 B0 hb; replace B2 := sqH N4 B2 hb; replace B9 := sqa (blk_below (g := g0) (o := .cells #[.int .i64 t393, .int .i64 t394, .slice Ao21 t1.length co21] 34 (0, 0)) (Z22 B9) hb); replace HB := sqS (sqB3 HB E0 E1 E2) hb; (try clear hb)) | ((with_reducible refine sqd 7 rfl ?_); refine sqBx w (sqB3 HB E0 E1 E2) (cs := #[.int .i64 0, .string (⟨#[]⟩ : ByteArray)]) (t := 38) ?_; intro gb402 hg w23 B10 E3 HB hb; replace O0 := sqU O0 hb; obtain ⟨N6, N7⟩ := sqM hg B0; replace B0 := sqT B0 hb; obtain ⟨N8, N9⟩ := sqM hg B2; replace B2 := sqT B2 hb; obtain ⟨N10, N11⟩ := sqM hg B9; replace B9 := sqT B9 hb; clear hb hg; have := N7.1; have := N6.1; have := N9.1; have := N8.1; have := N11.1; have := N10.1; obtain ⟨_, _, _, _⟩ := sqY2 B10; obtain ⟨_, _, _, _, _, _⟩ := sqY3 B0))
  by_cases c7 : t2 = true
  ·subst c7
   rw [if_pos rfl] at H
   obtain ⟨⟨t403, t404, t3, t4⟩, A8, H⟩ := sqD H
   try dsimp only at H
   go_upto_if 42 with (first | ((with_reducible refine sqc 14 rfl ?_); refine sqC (some 38) func14 #[.agg #[.int .i64 a0_0, .int .i64 a0_1, .slice A0_2 l0_2.length c0_2], .agg #[.int .i64 t399, .string t400]] ?_; (with_reducible refine (spec_DeskDo.calls k a0_0 a0_1 _ _ l0_2 t399 t400 t403 t404 t3 t4 _ ?side1 ?side2 A8.1).mono ?_); (case side1 => exact Kd.C_below HR0_2.1 (sqB4 HB E0 E1 E2 E3)); (case side2 => exact Z3); rintro e w29 ⟨v1, rfl, ho0, hb⟩; refine ⟨_, rfl, ?_⟩; have O1 := sqa (Kd.Q_lower (Kd.Q_new' ho0 (Kd.R_lt (Z23 O0 B10))) (below_size (sqB4 HB E0 E1 E2 E3))); replace O0 := sqa (Kd.R_elder' (Z23 O0 B10) (Kd.Q_base ho0) hb); replace B0 := sqH N6 B0 hb; replace B2 := sqH N8 B2 hb; replace B9 := sqH N10 B9 hb; replace B10 := sqa (blk_below (g := gb402) (o := .cells #[.int .i64 t399, .string t400] 38 (0, 0)) (Z24 B10) hb); replace HB := sqS (sqB4 HB E0 E1 E2 E3) hb; (try clear hb); (try clear ho0)) | ((with_reducible refine sqd 9 rfl ?_); refine sqBx w (sqB4 HB E0 E1 E2 E3) (cs := #[.int .i64 0, .int .i64 0, .slice none 0 0]) (t := 34) ?_; intro g1 hg w30 B11 E4 HB hb; replace O0 := sqU O0 hb; replace O1 := sqa (Kd.Q_below (Z12 O1) hb); obtain ⟨N12, N13⟩ := sqM hg B0; replace B0 := sqT B0 hb; obtain ⟨N14, N15⟩ := sqM hg B2; replace B2 := sqT B2 hb; obtain ⟨N16, N17⟩ := sqM hg B9; replace B9 := sqT B9 hb; obtain ⟨N18, N19⟩ := sqM hg B10; replace B10 := sqT B10 hb; clear hb hg; obtain ⟨Ao36, co36, eo36, _⟩ := Kd.Q_slice O1.1; subst eo36; have := N13.1; have := N12.1; have := N15.1; have := N14.1; have := N17.1; have := N16.1; have := N19.1; have := N18.1; obtain ⟨_, _, _, _, _, _⟩ := sqY3 B11; obtain ⟨_, _, _, _, _, _⟩ := sqY3 B2))
   by_cases c9 : t4 = true
   ·subst c9
    rw [if_pos rfl] at H
    obtain ⟨rfl, rfl, rfl, rfl⟩ := sqO4 H
    go_wp2_with fail
    refine sqE gb391 34 #[.int .i64 t403, .int .i64 t404, .slice Ao36 t3.length co36] (Z25 N14 B2) underlying34 ?_
    exact ⟨_, Z16, by (with_reducible repeat (first | apply Kd.Q_alloc | apply Kd.Q_drewN | apply Kd.Q_drew)); exact Kd.Q_mono (Kd.Q_far (p := ⟨gb391, 2, none⟩) (Kd.Q_far (p := ⟨gb391, 1, none⟩) (Kd.Q_far (p := ⟨gb391, 0, none⟩) (Kd.Q_far (p := ⟨g1, 2, none⟩) (Kd.Q_far (p := ⟨g1, 1, none⟩) (Kd.Q_far (p := ⟨g1, 0, none⟩) (Kd.Q_types (Kd.Q_types O1.1 B11.1 (by decide)) B2.1 (by decide)) (fun _ hk => hk.1.2) (.int .i64 t403)) (fun _ hk => hk.1.2) (.int .i64 t404)) (fun _ hk => hk.1.2) (.slice Ao36 t3.length co36)) (fun _ hk => hk.2) (.int .i64 t403)) (fun _ hk => hk.2) (.int .i64 t404)) (fun _ hk => hk.2) (.slice Ao36 t3.length co36)) (fun _ hk => trivial), Z15 E0 E1 E2 E3 E4⟩
   obtain rfl := sqb c9
   rw [if_neg sqF] at H
   obtain ⟨rfl, rfl, rfl, rfl⟩ := sqO4 H
   go_wp2_with fail
   refine sqE gb391 34 #[.int .i64 t403, .int .i64 t404, .slice Ao36 t3.length co36] (Z25 N14 B2) underlying34 ?_
   exact ⟨_, Z16, by (with_reducible repeat (first | apply Kd.Q_alloc | apply Kd.Q_drewN | apply Kd.Q_drew)); exact Kd.Q_mono (Kd.Q_far (p := ⟨gb391, 2, none⟩) (Kd.Q_far (p := ⟨gb391, 1, none⟩) (Kd.Q_far (p := ⟨gb391, 0, none⟩) (Kd.Q_far (p := ⟨g1, 2, none⟩) (Kd.Q_far (p := ⟨g1, 1, none⟩) (Kd.Q_far (p := ⟨g1, 0, none⟩) (Kd.Q_types (Kd.Q_types O1.1 B11.1 (by decide)) B2.1 (by decide)) (fun _ hk => hk.1.2) (.int .i64 t403)) (fun _ hk => hk.1.2) (.int .i64 t404)) (fun _ hk => hk.1.2) (.slice Ao36 t3.length co36)) (fun _ hk => hk.2) (.int .i64 t403)) (fun _ hk => hk.2) (.int .i64 t404)) (fun _ hk => hk.2) (.slice Ao36 t3.length co36)) (fun _ hk => trivial), Z15 E0 E1 E2 E3 E4⟩
  obtain rfl := sqb c7
  rw [if_neg sqF] at H
  go_upto_if 48 with (first | ((with_reducible refine sqd 11 rfl ?_); refine sqBx w (sqB4 HB E0 E1 E2 E3) (cs := #[.int .i64 0, .int .i64 0]) (t := 31) ?_; intro gb410 hg w87 B12 E5 HB hb; replace O0 := sqa (Kd.R_below (Kd.R_elderB (Z23 O0 B10) gb410 (Nat.le_of_eq hg.symm)) hb); have N20 := sqa ((Z125 N6 B0 : gb390 ≠ gb410)); have N21 := sqa ((Z126 N6 B0 : gb410 ≠ gb390)); replace B0 := sqH N6 B0 hb; have N22 := sqa ((Z127 N8 B2 : gb391 ≠ gb410)); have N23 := sqa ((Z128 N8 B2 : gb410 ≠ gb391)); replace B2 := sqH N8 B2 hb; have N24 := sqa ((by rw [hg]; exact Nat.ne_of_lt (blk_lt (g := g0) (o := .cells #[.int .i64 t393, .int .i64 t394, .slice Ao21 t1.length co21] 34 (0, 0)) (Z11 N10 B9)) : g0 ≠ gb410)); have N25 := sqa ((by rw [hg]; exact Nat.ne_of_gt (blk_lt (g := g0) (o := .cells #[.int .i64 t393, .int .i64 t394, .slice Ao21 t1.length co21] 34 (0, 0)) (Z11 N10 B9)) : gb410 ≠ g0)); replace B9 := sqH N10 B9 hb; have N26 := sqa ((Z129 B10 : gb402 ≠ gb410)); have N27 := sqa ((Z130 B10 : gb410 ≠ gb402)); replace B10 := sqa (blk_below (g := gb402) (o := .cells #[.int .i64 t399, .string t400] 38 (0, 0)) (Z24 B10) hb); clear hb hg; have := N21.1; have := N20.1; have := N23.1; have := N22.1; have := N25.1; have := N24.1; have := N27.1; have := N26.1; obtain ⟨_, _, _, _⟩ := sqY2 B12))
  by_cases c66 : a1.toList = ([116, 101, 120, 116] : List UInt8)
  ·rw [if_pos c66] at H
   have c66b0 : (a1.toList == ([116, 101, 120, 116] : List UInt8)) = true := sqe1 c66
   have c66b1 : (a1.toList != ([116, 101, 120, 116] : List UInt8)) = false := sqn0 c66
   (first | rw [c66b0] | rw [c66b1] | simp only [i64_w, i32_w, c66b0, c66b1] | skip)
   clear c66
   obtain ⟨t5, A67, H⟩ := sqD H
   obtain ⟨rfl, rfl, rfl, rfl⟩ := sqO4 H
   try go_wp2_with fail
   obtain ⟨w93, hw_⟩ : ∃ w_, (w87.setCell ⟨gb410, 0, none⟩ (.int .i64 a0_0)).setCell ⟨gb410, 1, none⟩ (.int .i64 a0_1) = w_ := ⟨_, rfl⟩
   replace O0 : Aside0 (Kd.R k31 31 w93 w.heap.size (fun k_ => k_ ≠ gb410) (.slice Ao21 t1.length co21) t1) := by rw [← hw_]; exact ⟨Z26 O0⟩
   replace B0 := sqJ hw_ N20 B0
   replace B2 := sqJ hw_ N22 B2
   replace B9 := sqJ hw_ N24 B9
   replace B10 := sqJ hw_ N26 B10
   replace B12 : Aside0 (w93.heap[gb410]? = some (.cells #[.int .i64 a0_0, .int .i64 a0_1] 31 (0, 0))) := by rw [← hw_]; exact ⟨Z27 B12⟩
   replace HB : Aside0 (Below w.heap.size w w93) := by rw [← hw_]; exact ⟨Z15 E0 E1 E2 E3 E5⟩
   rw [hw_]; clear hw_
   replace O0 := sqa (Kd.R_drew O0.1)
   replace B0 := sqa (blk_drew B0.1)
   replace B2 := sqa (blk_drew B2.1)
   replace B9 := sqa (blk_drew B9.1)
   replace B10 := sqa (blk_drew B10.1)
   replace B12 := sqa (blk_drew B12.1)
   replace HB := sqa (below_drew1 HB.1)
   refine start_ (n := 5) (S := fun w' => w'.cell? ⟨g0, 0, none⟩ = some (.int .i64 t393) ∧ w'.cell? ⟨g0, 1, none⟩ = some (.int .i64 t394) ∧ w'.cell? ⟨g0, 2, none⟩ = some (.slice Ao21 t1.length co21) ∧ w'.cell? ⟨gb410, 0, none⟩ = some (.int .i64 a0_0) ∧ w'.cell? ⟨gb410, 1, none⟩ = some (.int .i64 a0_1)) (ds := []) #[false, false, false, false, false] (by kernel_rfl) rfl rfl (sqk2 B9 B12) (fun hHeld => ?_)
   generalize w93.drew = w94 at O0 B0 B2 B9 B10 B12 HB hHeld ⊢
   refine sqQk 0 (some 50) hHeld (h := ?_)
   refine sqQk 1 (some 51) hHeld (h := ?_)
   refine one_ (i := 2) (N := some 52) #[true, true, true, false, false] rfl rfl (by kernel_rfl) (by decide) (fun K hK => ?_)
   refine goes_ func89 (by kernel_rfl) rfl #[.agg #[.int .i64 a0_0, .int .i64 a0_1]] (by rfl) rfl rfl sqA ?_
   with_reducible refine (spec_FractionText.calls k a0_0 a0_1 t5 _ A67.1).mono ?_
   rintro e w95 ⟨rfl, hb⟩
   refine ⟨_, rfl, ?_⟩
   replace O0 := sqU O0 hb
   replace B0 := sqT B0 hb
   replace B2 := sqT B2 hb
   replace B9 := sqT B9 hb
   replace B10 := sqT B10 hb
   replace B12 := sqT B12 hb
   replace HB := sqa (below_step (Z15 E0 E1 E2 E3 E5) hb)
   (try clear hb)
   (try clear hb2)
   (try clear hk)
   (try clear hi)
   refine hK.out _ _ (sqk2 B9 B12) (fun hHeld => ?_)
   clear hK K
   refine sqN (some 52) ?_
   refine one_ (i := 3) (N := none) #[true, true, true, true, false] rfl rfl (by kernel_rfl) (by decide) (fun K hK => ?_)
   have hs96 : w95.cell? ⟨gb391, 0, none⟩ = some (.int .i64 0) := (blk_cell B2.1 0).trans rfl
   have hfs96 := blk_frozen B2.1 0
   have hns96_0 := N0.1
   have hns96_2 := N5.1
   have hns96_3 := N9.1
   have hns96_4 := N23.1
   have hms96_0 := N1.1
   have hms96_2 := N4.1
   have hms96_3 := N8.1
   have hms96_4 := N22.1
   have hs97 : w95.cell? ⟨gb391, 1, none⟩ = some (.int .i64 0) := (blk_cell B2.1 1).trans rfl
   have hfs97 := blk_frozen B2.1 1
   have hs98 : w95.cell? ⟨gb391, 2, none⟩ = some (.slice none 0 0) := (blk_cell B2.1 2).trans rfl
   have hfs98 := blk_frozen B2.1 2
   refine skip_ (w1 := ?_) (by rfl) rfl ?_ ?_
   rotate_left
   ·go_simp
    rfl
   refine hK.out _ _ (sql2 N5 N23 hHeld) (fun hHeld => ?_)
   clear hK K
   refine sqPk 4 (some 5) (h := ?_)
   refine done_ (by kernel_rfl) ?_
   try go_wp2
   refine sqE gb391 34 #[.int .i64 t393, .int .i64 t394, .slice Ao21 t1.length co21] (Z22 B2) underlying34 ?_
   exact ⟨_, Z16, Kd.Q_of_R (by (with_reducible repeat (first | apply Kd.R_alloc | apply Kd.R_drewN | apply Kd.R_drew)); exact Kd.R_mono (sqr3 O0.1 B2.1) (fun _ hk => trivial)), Z15 E0 E1 E2 E3 E5⟩
  rw [if_neg c66] at H
  have c66b0 : (a1.toList == ([116, 101, 120, 116] : List UInt8)) = false := sqe0 c66
  have c66b1 : (a1.toList != ([116, 101, 120, 116] : List UInt8)) = true := sqn1 c66
  (first | rw [c66b0] | rw [c66b1] | simp only [i64_w, i32_w, c66b0, c66b1] | skip)
  go_upto_if 53 with fail
  by_cases c99 : a1.toList = ([109, 111, 118, 101, 115] : List UInt8)
  ·rw [if_pos c99] at H
   have c99b0 : (a1.toList == ([109, 111, 118, 101, 115] : List UInt8)) = true := sqe1 c99
   have c99b1 : (a1.toList != ([109, 111, 118, 101, 115] : List UInt8)) = false := sqn0 c99
   (first | rw [c99b0] | rw [c99b1] | simp only [i64_w, i32_w, c99b0, c99b1] | skip)
   clear c99
   obtain ⟨⟨t6, t7⟩, A0, H⟩ := sqD H
   try dsimp only at H
   go_upto_if 61 with (first | ((with_reducible refine sqc 90 rfl ?_); refine sqC (some 57) func90 #[.agg #[.int .i64 a0_0, .int .i64 a0_1]] ?_; (with_reducible refine (spec_UntiedOf.calls k a0_0 a0_1 t6 t7 _ A0.1).mono ?_); refine sqV fun w0 hb => ?_; replace O0 := sqa (Kd.R_below (Z28 O0) hb); replace B0 := sqH N20 B0 hb; replace B2 := sqH N22 B2 hb; replace B9 := sqH N24 B9 hb; replace B10 := sqH N26 B10 hb; replace B12 := sqa (blk_below (g := gb410) (o := .cells #[.int .i64 a0_0, .int .i64 a0_1] 31 (0, 0)) (Z27 B12) hb); replace HB := sqa (below_step (Z15 E0 E1 E2 E3 E5) hb); (try clear hb); obtain ⟨_, _, _, _, _, _⟩ := sqY3 B9; obtain ⟨_, _, _, _, _, _⟩ := sqY3 B2))
   by_cases c0 : t7 = true
   ·subst c0
    rw [if_pos rfl] at H
    obtain ⟨c1, H⟩ := sqI H
    have c2 := eq_true c1
    have c3 : decide (1 + t6.size ≤ 9223372036854775807) = true := decide_eq_true c1
    try have c5 : (9223372036854775807 < 1 + t6.size) = False := eq_false (Nat.not_lt.2 c1)
    obtain ⟨rfl, rfl, rfl, rfl⟩ := sqO4 H
    go_wp2_with fail
    refine sqE gb391 34 #[.int .i64 t393, .int .i64 t394, .slice Ao21 t1.length co21] (Z22 B2) underlying34 ?_
    exact ⟨_, Z16, Kd.Q_of_R (by (with_reducible repeat (first | apply Kd.R_alloc | apply Kd.R_drewN | apply Kd.R_drew)); exact Kd.R_mono (sqr3 O0.1 B2.1) (fun _ hk => trivial)), Z15 E0 E1 E2 E3 E5⟩
   obtain rfl := sqb c0
   rw [if_neg sqF] at H
   obtain ⟨rfl, rfl, rfl, rfl⟩ := sqO4 H
   go_wp2_with fail
   refine sqE gb391 34 #[.int .i64 t393, .int .i64 t394, .slice Ao21 t1.length co21] (Z22 B2) underlying34 ?_
   exact ⟨_, Z16, Kd.Q_of_R (by (with_reducible repeat (first | apply Kd.R_alloc | apply Kd.R_drewN | apply Kd.R_drew)); exact Kd.R_mono (sqr3 O0.1 B2.1) (fun _ hk => trivial)), Z15 E0 E1 E2 E3 E5⟩
  rw [if_neg c99] at H
  have c99b0 : (a1.toList == ([109, 111, 118, 101, 115] : List UInt8)) = false := sqe0 c99
  have c99b1 : (a1.toList != ([109, 111, 118, 101, 115] : List UInt8)) = true := sqn1 c99
  (first | rw [c99b0] | rw [c99b1] | simp only [i64_w, i32_w, c99b0, c99b1] | skip)
  go_upto_if 66 with fail
  by_cases c6 : a1.toList = ([116, 101, 114, 109, 115] : List UInt8)
  ·rw [if_pos c6] at H
   have c8 : (a1.toList == ([116, 101, 114, 109, 115] : List UInt8)) = true := sqe1 c6
   have c10 : (a1.toList != ([116, 101, 114, 109, 115] : List UInt8)) = false := sqn0 c6
   (first | rw [c8] | rw [c10] | simp only [i64_w, i32_w, c8, c10] | skip)
   clear c6
   obtain ⟨⟨t8, t9⟩, A1, H⟩ := sqD H
   try dsimp only at H
   obtain ⟨t10, A2, H⟩ := sqD H
   obtain ⟨rfl, rfl, rfl, rfl⟩ := sqO4 H
   try go_wp2_with (first | ((with_reducible refine sqc 91 rfl ?_); refine sqC (some 70) func91 #[.agg #[.int .i64 a0_0, .int .i64 a0_1]] ?_; (with_reducible refine (spec_TermsOf.calls k a0_0 a0_1 t8 t9 _ A1.1).mono ?_); rintro e w2 ⟨v2, rfl, ho0, hb⟩; refine ⟨_, rfl, ?_⟩; replace O0 := sqa (Kd.R_below (Z28 O0) hb); have O2 := sqa (Kd.R_lower ho0 (below_size (Z15 E0 E1 E2 E3 E5))); replace B0 := sqH N20 B0 hb; replace B2 := sqH N22 B2 hb; replace B9 := sqH N24 B9 hb; replace B10 := sqH N26 B10 hb; replace B12 := sqa (blk_below (g := gb410) (o := .cells #[.int .i64 a0_0, .int .i64 a0_1] 31 (0, 0)) (Z27 B12) hb); replace HB := sqa (below_step (Z15 E0 E1 E2 E3 E5) hb); (try clear hb); (try clear ho0)))
   replace O0 := sqa (Kd.R_drew O0.1)
   replace O2 := sqa (Kd.R_drew O2.1)
   replace B0 := sqa (blk_drew B0.1)
   replace B2 := sqa (blk_drew B2.1)
   replace B9 := sqa (blk_drew B9.1)
   replace B10 := sqa (blk_drew B10.1)
   replace B12 := sqa (blk_drew B12.1)
   replace HB := sqa (below_drew1 HB.1)
   obtain ⟨Ao0, co0, eo0⟩ := Kd.R_slice O2.1
   (first | subst eo0 | (injection eo0 with f1_ f2_ f3_; have f4_ := f1_.symm; have f5_ := f3_.symm; clear f1_ f2_ f3_; subst f4_; subst f5_))
   refine start_ (n := 5) (S := fun w' => w'.cell? ⟨g0, 0, none⟩ = some (.int .i64 t393) ∧ w'.cell? ⟨g0, 1, none⟩ = some (.int .i64 t394) ∧ w'.cell? ⟨g0, 2, none⟩ = some (.slice Ao21 t1.length co21)) (ds := []) #[false, false, false, false, false] (by kernel_rfl) rfl rfl (sqk1 B9) (fun hHeld => ?_)
   generalize w2.drew = w3 at O0 O2 B0 B2 B9 B10 B12 HB hHeld ⊢
   refine sqPk 1 (some 74) (h := ?_)
   refine sqQk 0 (some 73) hHeld (h := ?_)
   refine one_ (i := 2) (N := some 75) #[true, true, true, false, false] rfl rfl (by kernel_rfl) (by decide) (fun K hK => ?_)
   refine goes_ func92 (by kernel_rfl) rfl #[.slice Ao0 t8.length co0] (by rfl) rfl rfl sqA ?_
   with_reducible refine (spec_l11Row.calls k _ _ t8 t10 _ ?side1 ?side2 A2.1).mono ?_
   (case side1 => exact Z29 O2)
   (case side2 => exact Z30 O2)
   rintro e w4 ⟨rfl, hb⟩
   refine ⟨_, rfl, ?_⟩
   replace O0 := sqU O0 hb
   replace O2 := sqU O2 hb
   replace B0 := sqT B0 hb
   replace B2 := sqT B2 hb
   replace B9 := sqT B9 hb
   replace B10 := sqT B10 hb
   replace B12 := sqT B12 hb
   replace HB := sqa (below_step (Z15 E0 E1 E2 E3 E5) hb)
   (try clear hb)
   (try clear hb2)
   (try clear hk)
   (try clear hi)
   refine hK.out _ _ (sqk1 B9) (fun hHeld => ?_)
   clear hK K
   refine sqN (some 75) ?_
   refine one_ (i := 3) (N := none) #[true, true, true, true, false] rfl rfl (by kernel_rfl) (by decide) (fun K hK => ?_)
   have hs0 : w4.cell? ⟨gb391, 0, none⟩ = some (.int .i64 0) := (blk_cell B2.1 0).trans rfl
   have hfs0 := blk_frozen B2.1 0
   have hns0 := N0.1
   have hns1 := N5.1
   have hns2 := N9.1
   have hns3 := N23.1
   have hms0 := N1.1
   have hms1 := N4.1
   have hms2 := N8.1
   have hms3 := N22.1
   have hs1 : w4.cell? ⟨gb391, 1, none⟩ = some (.int .i64 0) := (blk_cell B2.1 1).trans rfl
   have hfs1 := blk_frozen B2.1 1
   have hs2 : w4.cell? ⟨gb391, 2, none⟩ = some (.slice none 0 0) := (blk_cell B2.1 2).trans rfl
   have hfs2 := blk_frozen B2.1 2
   refine skip_ (w1 := ?_) (by rfl) rfl ?_ ?_
   rotate_left
   ·go_simp
    rfl
   refine hK.out _ _ (sql1 N5 hHeld) (fun hHeld => ?_)
   clear hK K
   refine sqPk 4 (some 5) (h := ?_)
   refine done_ (by kernel_rfl) ?_
   try go_wp2
   refine sqE gb391 34 #[.int .i64 t393, .int .i64 t394, .slice Ao21 t1.length co21] (Z22 B2) underlying34 ?_
   exact ⟨_, Z16, Kd.Q_of_R (by (with_reducible repeat (first | apply Kd.R_alloc | apply Kd.R_drewN | apply Kd.R_drew)); exact Kd.R_mono (sqr3 O0.1 B2.1) (fun _ hk => trivial)), Z15 E0 E1 E2 E3 E5⟩
  rw [if_neg c6] at H
  have c8 : (a1.toList == ([116, 101, 114, 109, 115] : List UInt8)) = false := sqe0 c6
  have c10 : (a1.toList != ([116, 101, 114, 109, 115] : List UInt8)) = true := sqn1 c6
  (first | rw [c8] | rw [c10] | simp only [i64_w, i32_w, c8, c10] | skip)
  go_upto_if 76 with fail
  by_cases c11 : a1.toList = ([99, 114, 111, 115, 115, 105, 110, 103, 115] : List UInt8)
  ·rw [if_pos c11] at H
   have c12 : (a1.toList == ([99, 114, 111, 115, 115, 105, 110, 103, 115] : List UInt8)) = true := sqe1 c11
   have c13 : (a1.toList != ([99, 114, 111, 115, 115, 105, 110, 103, 115] : List UInt8)) = false := sqn0 c11
   (first | rw [c12] | rw [c13] | simp only [i64_w, i32_w, c12, c13] | skip)
   clear c11
   obtain ⟨t11, A4, H⟩ := sqD H
   obtain ⟨t12, A7, H⟩ := sqD H
   obtain ⟨rfl, rfl, rfl, rfl⟩ := sqO4 H
   try go_wp2_with fail
   obtain ⟨w5, hw_⟩ : ∃ w_, (w87.setCell ⟨gb410, 0, none⟩ (.int .i64 a0_0)).setCell ⟨gb410, 1, none⟩ (.int .i64 a0_1) = w_ := ⟨_, rfl⟩
   replace O0 : Aside0 (Kd.R k31 31 w5 w.heap.size (fun k_ => k_ ≠ gb410) (.slice Ao21 t1.length co21) t1) := by rw [← hw_]; exact ⟨Z26 O0⟩
   replace B0 := sqJ hw_ N20 B0
   replace B2 := sqJ hw_ N22 B2
   replace B9 := sqJ hw_ N24 B9
   replace B10 := sqJ hw_ N26 B10
   replace B12 : Aside0 (w5.heap[gb410]? = some (.cells #[.int .i64 a0_0, .int .i64 a0_1] 31 (0, 0))) := by rw [← hw_]; exact ⟨Z27 B12⟩
   replace HB : Aside0 (Below w.heap.size w w5) := by rw [← hw_]; exact ⟨Z15 E0 E1 E2 E3 E5⟩
   rw [hw_]; clear hw_
   replace O0 := sqa (Kd.R_drew O0.1)
   replace B0 := sqa (blk_drew B0.1)
   replace B2 := sqa (blk_drew B2.1)
   replace B9 := sqa (blk_drew B9.1)
   replace B10 := sqa (blk_drew B10.1)
   replace B12 := sqa (blk_drew B12.1)
   replace HB := sqa (below_drew1 HB.1)
   refine start_ (n := 6) (S := fun w' => w'.cell? ⟨g0, 0, none⟩ = some (.int .i64 t393) ∧ w'.cell? ⟨g0, 1, none⟩ = some (.int .i64 t394) ∧ w'.cell? ⟨g0, 2, none⟩ = some (.slice Ao21 t1.length co21) ∧ w'.cell? ⟨gb410, 0, none⟩ = some (.int .i64 a0_0) ∧ w'.cell? ⟨gb410, 1, none⟩ = some (.int .i64 a0_1)) (ds := []) #[false, false, false, false, false, false] (by kernel_rfl) rfl rfl (sqk2 B9 B12) (fun hHeld => ?_)
   generalize w5.drew = w6 at O0 B0 B2 B9 B10 B12 HB hHeld ⊢
   refine sqQk 0 (some 78) hHeld (h := ?_)
   refine sqQk 1 (some 79) hHeld (h := ?_)
   refine one_ (i := 2) (N := some 80) #[true, true, true, false, false, false] rfl rfl (by kernel_rfl) (by decide) (fun K hK => ?_)
   refine goes_ func94 (by kernel_rfl) rfl #[.agg #[.int .i64 a0_0, .int .i64 a0_1]] (by rfl) rfl rfl sqA ?_
   with_reducible refine (spec_CrossingsOf.calls k a0_0 a0_1 t11 _ A4.1).mono ?_
   rintro e w7 ⟨rfl, hb⟩
   refine ⟨_, rfl, ?_⟩
   replace O0 := sqU O0 hb
   replace B0 := sqT B0 hb
   replace B2 := sqT B2 hb
   replace B9 := sqT B9 hb
   replace B10 := sqT B10 hb
   replace B12 := sqT B12 hb
   replace HB := sqa (below_step (Z15 E0 E1 E2 E3 E5) hb)
   (try clear hb)
   (try clear hb2)
   (try clear hk)
   (try clear hi)
   refine hK.out _ _ (sqk2 B9 B12) (fun hHeld => ?_)
   clear hK K
   refine sqN (some 80) ?_
   refine one_ (i := 3) (N := some 81) #[true, true, true, true, false, false] rfl rfl (by kernel_rfl) (by decide) (fun K hK => ?_)
   refine goes_ func93 (by kernel_rfl) rfl #[.int .i64 t11] (by rfl) rfl rfl sqA ?_
   with_reducible refine (spec_l1Number.calls k t11 t12 _ A7.1).mono ?_
   rintro e w8 ⟨rfl, hb⟩
   refine ⟨_, rfl, ?_⟩
   replace O0 := sqU O0 hb
   replace B0 := sqT B0 hb
   replace B2 := sqT B2 hb
   replace B9 := sqT B9 hb
   replace B10 := sqT B10 hb
   replace B12 := sqT B12 hb
   replace HB := sqa (below_step (Z15 E0 E1 E2 E3 E5) hb)
   (try clear hb)
   (try clear hb2)
   (try clear hk)
   (try clear hi)
   refine hK.out _ _ (sqk2 B9 B12) (fun hHeld => ?_)
   clear hK K
   refine sqN (some 81) ?_
   refine one_ (i := 4) (N := none) #[true, true, true, true, true, false] rfl rfl (by kernel_rfl) (by decide) (fun K hK => ?_)
   have hs3 : w8.cell? ⟨gb391, 0, none⟩ = some (.int .i64 0) := (blk_cell B2.1 0).trans rfl
   have hfs3 := blk_frozen B2.1 0
   have hns4 := N0.1
   have hns5 := N5.1
   have hns6 := N9.1
   have hns7 := N23.1
   have hms4 := N1.1
   have hms5 := N4.1
   have hms6 := N8.1
   have hms7 := N22.1
   have hs4 : w8.cell? ⟨gb391, 1, none⟩ = some (.int .i64 0) := (blk_cell B2.1 1).trans rfl
   have hfs4 := blk_frozen B2.1 1
   have hs5 : w8.cell? ⟨gb391, 2, none⟩ = some (.slice none 0 0) := (blk_cell B2.1 2).trans rfl
   have hfs5 := blk_frozen B2.1 2
   refine skip_ (w1 := ?_) (by rfl) rfl ?_ ?_
   rotate_left
   ·go_simp
    rfl
   refine hK.out _ _ (sql2 N5 N23 hHeld) (fun hHeld => ?_)
   clear hK K
   refine sqPk 5 (some 5) (h := ?_)
   refine done_ (by kernel_rfl) ?_
   try go_wp2
   refine sqE gb391 34 #[.int .i64 t393, .int .i64 t394, .slice Ao21 t1.length co21] (Z22 B2) underlying34 ?_
   exact ⟨_, Z16, Kd.Q_of_R (by (with_reducible repeat (first | apply Kd.R_alloc | apply Kd.R_drewN | apply Kd.R_drew)); exact Kd.R_mono (sqr3 O0.1 B2.1) (fun _ hk => trivial)), Z15 E0 E1 E2 E3 E5⟩
  rw [if_neg c11] at H
  have c12 : (a1.toList == ([99, 114, 111, 115, 115, 105, 110, 103, 115] : List UInt8)) = false := sqe0 c11
  have c13 : (a1.toList != ([99, 114, 111, 115, 115, 105, 110, 103, 115] : List UInt8)) = true := sqn1 c11
  (first | rw [c12] | rw [c13] | simp only [i64_w, i32_w, c12, c13] | skip)
  go_upto_if 82 with fail
  by_cases c14 : a1.toList = ([101, 110, 100, 115] : List UInt8)
  ·rw [if_pos c14] at H
   have c15 : (a1.toList == ([101, 110, 100, 115] : List UInt8)) = true := sqe1 c14
   have c16 : (a1.toList != ([101, 110, 100, 115] : List UInt8)) = false := sqn0 c14
   (first | rw [c15] | rw [c16] | simp only [i64_w, i32_w, c15, c16] | skip)
   clear c14
   obtain ⟨t13, A9, H⟩ := sqD H
   obtain ⟨t14, A10, H⟩ := sqD H
   obtain ⟨rfl, rfl, rfl, rfl⟩ := sqO4 H
   try go_wp2_with fail
   obtain ⟨w9, hw_⟩ : ∃ w_, (w87.setCell ⟨gb410, 0, none⟩ (.int .i64 a0_0)).setCell ⟨gb410, 1, none⟩ (.int .i64 a0_1) = w_ := ⟨_, rfl⟩
   replace O0 : Aside0 (Kd.R k31 31 w9 w.heap.size (fun k_ => k_ ≠ gb410) (.slice Ao21 t1.length co21) t1) := by rw [← hw_]; exact ⟨Z26 O0⟩
   replace B0 := sqJ hw_ N20 B0
   replace B2 := sqJ hw_ N22 B2
   replace B9 := sqJ hw_ N24 B9
   replace B10 := sqJ hw_ N26 B10
   replace B12 : Aside0 (w9.heap[gb410]? = some (.cells #[.int .i64 a0_0, .int .i64 a0_1] 31 (0, 0))) := by rw [← hw_]; exact ⟨Z27 B12⟩
   replace HB : Aside0 (Below w.heap.size w w9) := by rw [← hw_]; exact ⟨Z15 E0 E1 E2 E3 E5⟩
   rw [hw_]; clear hw_
   replace O0 := sqa (Kd.R_drew O0.1)
   replace B0 := sqa (blk_drew B0.1)
   replace B2 := sqa (blk_drew B2.1)
   replace B9 := sqa (blk_drew B9.1)
   replace B10 := sqa (blk_drew B10.1)
   replace B12 := sqa (blk_drew B12.1)
   replace HB := sqa (below_drew1 HB.1)
   refine start_ (n := 6) (S := fun w' => w'.cell? ⟨g0, 0, none⟩ = some (.int .i64 t393) ∧ w'.cell? ⟨g0, 1, none⟩ = some (.int .i64 t394) ∧ w'.cell? ⟨g0, 2, none⟩ = some (.slice Ao21 t1.length co21) ∧ w'.cell? ⟨gb410, 0, none⟩ = some (.int .i64 a0_0) ∧ w'.cell? ⟨gb410, 1, none⟩ = some (.int .i64 a0_1)) (ds := []) #[false, false, false, false, false, false] (by kernel_rfl) rfl rfl (sqk2 B9 B12) (fun hHeld => ?_)
   generalize w9.drew = w12 at O0 B0 B2 B9 B10 B12 HB hHeld ⊢
   refine sqQk 0 (some 84) hHeld (h := ?_)
   refine sqQk 1 (some 85) hHeld (h := ?_)
   refine one_ (i := 2) (N := some 86) #[true, true, true, false, false, false] rfl rfl (by kernel_rfl) (by decide) (fun K hK => ?_)
   refine goes_ func95 (by kernel_rfl) rfl #[.agg #[.int .i64 a0_0, .int .i64 a0_1]] (by rfl) rfl rfl sqA ?_
   with_reducible refine (spec_EndsFor.calls k a0_0 a0_1 t13 _ A9.1).mono ?_
   rintro e w13 ⟨v3, rfl, ho0, hb⟩
   refine ⟨_, rfl, ?_⟩
   replace O0 := sqU O0 hb
   have O3 := sqa (Kd.R_lower ho0 (below_size (Z15 E0 E1 E2 E3 E5)))
   replace B0 := sqT B0 hb
   replace B2 := sqT B2 hb
   replace B9 := sqT B9 hb
   replace B10 := sqT B10 hb
   replace B12 := sqT B12 hb
   replace HB := sqa (below_step (Z15 E0 E1 E2 E3 E5) hb)
   (try clear hb)
   (try clear hb2)
   (try clear hk)
   (try clear hi)
   (try clear ho0)
   obtain ⟨Ao1, co1, eo1⟩ := Kd.R_slice O3.1
   (first | subst eo1 | (injection eo1 with f1_ f2_ f3_; have f4_ := f1_.symm; have f5_ := f3_.symm; clear f1_ f2_ f3_; subst f4_; subst f5_))
   refine hK.out _ _ (sqk2 B9 B12) (fun hHeld => ?_)
   clear hK K
   refine sqN (some 86) ?_
   refine one_ (i := 3) (N := some 87) #[true, true, true, true, false, false] rfl rfl (by kernel_rfl) (by decide) (fun K hK => ?_)
   refine goes_ func92 (by kernel_rfl) rfl #[.slice Ao1 t13.length co1] (by rfl) rfl rfl sqA ?_
   with_reducible refine (spec_l11Row.calls k _ _ t13 t14 _ ?side1 ?side2 A10.1).mono ?_
   (case side1 => exact Z29 O3)
   (case side2 => exact Z30 O3)
   rintro e w15 ⟨rfl, hb⟩
   refine ⟨_, rfl, ?_⟩
   replace O0 := sqU O0 hb
   replace O3 := sqU O3 hb
   replace B0 := sqT B0 hb
   replace B2 := sqT B2 hb
   replace B9 := sqT B9 hb
   replace B10 := sqT B10 hb
   replace B12 := sqT B12 hb
   replace HB := sqa (below_step (Z15 E0 E1 E2 E3 E5) hb)
   (try clear hb)
   (try clear hb2)
   (try clear hk)
   (try clear hi)
   refine hK.out _ _ (sqk2 B9 B12) (fun hHeld => ?_)
   clear hK K
   refine sqN (some 87) ?_
   refine one_ (i := 4) (N := none) #[true, true, true, true, true, false] rfl rfl (by kernel_rfl) (by decide) (fun K hK => ?_)
   have hs6 : w15.cell? ⟨gb391, 0, none⟩ = some (.int .i64 0) := (blk_cell B2.1 0).trans rfl
   have hfs6 := blk_frozen B2.1 0
   have hns8 := N0.1
   have hns9 := N5.1
   have hns10 := N9.1
   have hns11 := N23.1
   have hms8 := N1.1
   have hms9 := N4.1
   have hms10 := N8.1
   have hms11 := N22.1
   have hs7 : w15.cell? ⟨gb391, 1, none⟩ = some (.int .i64 0) := (blk_cell B2.1 1).trans rfl
   have hfs7 := blk_frozen B2.1 1
   have hs8 : w15.cell? ⟨gb391, 2, none⟩ = some (.slice none 0 0) := (blk_cell B2.1 2).trans rfl
   have hfs8 := blk_frozen B2.1 2
   refine skip_ (w1 := ?_) (by rfl) rfl ?_ ?_
   rotate_left
   ·go_simp
    rfl
   refine hK.out _ _ (sql2 N5 N23 hHeld) (fun hHeld => ?_)
   clear hK K
   refine sqPk 5 (some 5) (h := ?_)
   refine done_ (by kernel_rfl) ?_
   try go_wp2
   refine sqE gb391 34 #[.int .i64 t393, .int .i64 t394, .slice Ao21 t1.length co21] (Z22 B2) underlying34 ?_
   exact ⟨_, Z16, Kd.Q_of_R (by (with_reducible repeat (first | apply Kd.R_alloc | apply Kd.R_drewN | apply Kd.R_drew)); exact Kd.R_mono (sqr3 O0.1 B2.1) (fun _ hk => trivial)), Z15 E0 E1 E2 E3 E5⟩
  rw [if_neg c14] at H
  have c15 : (a1.toList == ([101, 110, 100, 115] : List UInt8)) = false := sqe0 c14
  have c16 : (a1.toList != ([101, 110, 100, 115] : List UInt8)) = true := sqn1 c14
  (first | rw [c15] | rw [c16] | simp only [i64_w, i32_w, c15, c16] | skip)
  go_upto_if 88 with fail
  by_cases c17 : a1.toList = ([114, 105, 110, 103, 115] : List UInt8)
  ·rw [if_pos c17] at H
   have c18 : (a1.toList == ([114, 105, 110, 103, 115] : List UInt8)) = true := sqe1 c17
   have c19 : (a1.toList != ([114, 105, 110, 103, 115] : List UInt8)) = false := sqn0 c17
   (first | rw [c18] | rw [c19] | simp only [i64_w, i32_w, c18, c19] | skip)
   clear c17
   obtain ⟨t15, A11, H⟩ := sqD H
   obtain ⟨t16, A12, H⟩ := sqD H
   obtain ⟨rfl, rfl, rfl, rfl⟩ := sqO4 H
   try go_wp2_with fail
   obtain ⟨w18, hw_⟩ : ∃ w_, (w87.setCell ⟨gb410, 0, none⟩ (.int .i64 a0_0)).setCell ⟨gb410, 1, none⟩ (.int .i64 a0_1) = w_ := ⟨_, rfl⟩
   replace O0 : Aside0 (Kd.R k31 31 w18 w.heap.size (fun k_ => k_ ≠ gb410) (.slice Ao21 t1.length co21) t1) := by rw [← hw_]; exact ⟨Z26 O0⟩
   replace B0 := sqJ hw_ N20 B0
   replace B2 := sqJ hw_ N22 B2
   replace B9 := sqJ hw_ N24 B9
   replace B10 := sqJ hw_ N26 B10
   replace B12 : Aside0 (w18.heap[gb410]? = some (.cells #[.int .i64 a0_0, .int .i64 a0_1] 31 (0, 0))) := by rw [← hw_]; exact ⟨Z27 B12⟩
   replace HB : Aside0 (Below w.heap.size w w18) := by rw [← hw_]; exact ⟨Z15 E0 E1 E2 E3 E5⟩
   rw [hw_]; clear hw_
   replace O0 := sqa (Kd.R_drew O0.1)
   replace B0 := sqa (blk_drew B0.1)
   replace B2 := sqa (blk_drew B2.1)
   replace B9 := sqa (blk_drew B9.1)
   replace B10 := sqa (blk_drew B10.1)
   replace B12 := sqa (blk_drew B12.1)
   replace HB := sqa (below_drew1 HB.1)
   refine start_ (n := 6) (S := fun w' => w'.cell? ⟨g0, 0, none⟩ = some (.int .i64 t393) ∧ w'.cell? ⟨g0, 1, none⟩ = some (.int .i64 t394) ∧ w'.cell? ⟨g0, 2, none⟩ = some (.slice Ao21 t1.length co21) ∧ w'.cell? ⟨gb410, 0, none⟩ = some (.int .i64 a0_0) ∧ w'.cell? ⟨gb410, 1, none⟩ = some (.int .i64 a0_1)) (ds := []) #[false, false, false, false, false, false] (by kernel_rfl) rfl rfl (sqk2 B9 B12) (fun hHeld => ?_)
   generalize w18.drew = w19 at O0 B0 B2 B9 B10 B12 HB hHeld ⊢
   refine sqQk 0 (some 90) hHeld (h := ?_)
   refine sqQk 1 (some 91) hHeld (h := ?_)
   refine one_ (i := 2) (N := some 92) #[true, true, true, false, false, false] rfl rfl (by kernel_rfl) (by decide) (fun K hK => ?_)
   refine goes_ func96 (by kernel_rfl) rfl #[.agg #[.int .i64 a0_0, .int .i64 a0_1]] (by rfl) rfl rfl sqA ?_
   with_reducible refine (spec_RingsOf.calls k a0_0 a0_1 t15 _ A11.1).mono ?_
   rintro e w20 ⟨rfl, hb⟩
   refine ⟨_, rfl, ?_⟩
   replace O0 := sqU O0 hb
   replace B0 := sqT B0 hb
   replace B2 := sqT B2 hb
   replace B9 := sqT B9 hb
   replace B10 := sqT B10 hb
   replace B12 := sqT B12 hb
   replace HB := sqa (below_step (Z15 E0 E1 E2 E3 E5) hb)
   (try clear hb)
   (try clear hb2)
   (try clear hk)
   (try clear hi)
   refine hK.out _ _ (sqk2 B9 B12) (fun hHeld => ?_)
   clear hK K
   refine sqN (some 92) ?_
   refine one_ (i := 3) (N := some 93) #[true, true, true, true, false, false] rfl rfl (by kernel_rfl) (by decide) (fun K hK => ?_)
   refine goes_ func93 (by kernel_rfl) rfl #[.int .i64 t15] (by rfl) rfl rfl sqA ?_
   with_reducible refine (spec_l1Number.calls k t15 t16 _ A12.1).mono ?_
   rintro e w21 ⟨rfl, hb⟩
   refine ⟨_, rfl, ?_⟩
   replace O0 := sqU O0 hb
   replace B0 := sqT B0 hb
   replace B2 := sqT B2 hb
   replace B9 := sqT B9 hb
   replace B10 := sqT B10 hb
   replace B12 := sqT B12 hb
   replace HB := sqa (below_step (Z15 E0 E1 E2 E3 E5) hb)
   (try clear hb)
   (try clear hb2)
   (try clear hk)
   (try clear hi)
   refine hK.out _ _ (sqk2 B9 B12) (fun hHeld => ?_)
   clear hK K
   refine sqN (some 93) ?_
   refine one_ (i := 4) (N := none) #[true, true, true, true, true, false] rfl rfl (by kernel_rfl) (by decide) (fun K hK => ?_)
   have hs9 : w21.cell? ⟨gb391, 0, none⟩ = some (.int .i64 0) := (blk_cell B2.1 0).trans rfl
   have hfs9 := blk_frozen B2.1 0
   have hns12 := N0.1
   have hns13 := N5.1
   have hns14 := N9.1
   have hns15 := N23.1
   have hms12 := N1.1
   have hms13 := N4.1
   have hms14 := N8.1
   have hms15 := N22.1
   have hs10 : w21.cell? ⟨gb391, 1, none⟩ = some (.int .i64 0) := (blk_cell B2.1 1).trans rfl
   have hfs10 := blk_frozen B2.1 1
   have hs11 : w21.cell? ⟨gb391, 2, none⟩ = some (.slice none 0 0) := (blk_cell B2.1 2).trans rfl
   have hfs11 := blk_frozen B2.1 2
   refine skip_ (w1 := ?_) (by rfl) rfl ?_ ?_
   rotate_left
   ·go_simp
    rfl
   refine hK.out _ _ (sql2 N5 N23 hHeld) (fun hHeld => ?_)
   clear hK K
   refine sqPk 5 (some 5) (h := ?_)
   refine done_ (by kernel_rfl) ?_
   try go_wp2
   refine sqE gb391 34 #[.int .i64 t393, .int .i64 t394, .slice Ao21 t1.length co21] (Z22 B2) underlying34 ?_
   exact ⟨_, Z16, Kd.Q_of_R (by (with_reducible repeat (first | apply Kd.R_alloc | apply Kd.R_drewN | apply Kd.R_drew)); exact Kd.R_mono (sqr3 O0.1 B2.1) (fun _ hk => trivial)), Z15 E0 E1 E2 E3 E5⟩
  rw [if_neg c17] at H
  have c18 : (a1.toList == ([114, 105, 110, 103, 115] : List UInt8)) = false := sqe0 c17
  have c19 : (a1.toList != ([114, 105, 110, 103, 115] : List UInt8)) = true := sqn1 c17
  (first | rw [c18] | rw [c19] | simp only [i64_w, i32_w, c18, c19] | skip)
  go_upto_if 94 with fail
  by_cases c20 : a1.toList = ([108, 105, 110, 107] : List UInt8)
  ·rw [if_pos c20] at H
   have c21 : (a1.toList == ([108, 105, 110, 107] : List UInt8)) = true := sqe1 c20
   have c22 : (a1.toList != ([108, 105, 110, 107] : List UInt8)) = false := sqn0 c20
   (first | rw [c21] | rw [c22] | simp only [i64_w, i32_w, c21, c22] | skip)
   clear c20
   obtain ⟨⟨t17, t18, t19⟩, A13, H⟩ := sqD H
   try dsimp only at H
   go_upto_if 102 with (first | ((with_reducible refine sqc 97 rfl ?_); refine sqC (some 98) func97 #[.agg #[.int .i64 a0_0, .int .i64 a0_1]] ?_; (with_reducible refine (spec_LinkOf.calls k a0_0 a0_1 t17 t18 t19 _ A13.1).mono ?_); refine sqV fun w24 hb => ?_; replace O0 := sqa (Kd.R_below (Z28 O0) hb); replace B0 := sqH N20 B0 hb; replace B2 := sqH N22 B2 hb; replace B9 := sqH N24 B9 hb; replace B10 := sqH N26 B10 hb; replace B12 := sqa (blk_below (g := gb410) (o := .cells #[.int .i64 a0_0, .int .i64 a0_1] 31 (0, 0)) (Z27 B12) hb); replace HB := sqa (below_step (Z15 E0 E1 E2 E3 E5) hb); (try clear hb)) | ((with_reducible refine sqd 16 rfl ?_); refine sqBox (N := 16) (cs := #[.int .i64 0, .int .i64 0]) (t := 116) ?_; intro g2 hg w25 B13 hb; replace O0 := sqU O0 hb; have GW0 := sqa ((by rw [hg]; exact (below_size (Z15 E0 E1 E2 E3 E5)) : w.heap.size ≤ g2)); have E6 := GW0; replace HB := sqa (below_step (Z15 E0 E1 E2 E3 E5) hb); obtain ⟨N28, N29⟩ := sqM hg B0; replace B0 := sqT B0 hb; obtain ⟨N30, N31⟩ := sqM hg B2; replace B2 := sqT B2 hb; obtain ⟨N32, N33⟩ := sqM hg B9; replace B9 := sqT B9 hb; obtain ⟨N34, N35⟩ := sqM hg B10; replace B10 := sqT B10 hb; obtain ⟨N36, N37⟩ := sqM hg B12; replace B12 := sqT B12 hb; clear hb hg; have := N29.1; have := N28.1; have := N31.1; have := N30.1; have := N33.1; have := N32.1; have := N35.1; have := N34.1; have := N37.1; have := N36.1; obtain ⟨_, _, _, _⟩ := sqY2 B13; obtain ⟨_, _, _, _, _, _⟩ := sqY3 B9; obtain ⟨_, _, _, _, _, _⟩ := sqY3 B2))
   by_cases c23 : t19 = true
   ·subst c23
    rw [if_pos rfl] at H
    obtain ⟨⟨t20, t21, t22⟩, A14, H⟩ := sqD H
    try dsimp only at H
    obtain ⟨t23, A15, H⟩ := sqD H
    obtain ⟨c24, H⟩ := sqI H
    have c25 := eq_true c24
    have c26 : decide (t23.size + 1 ≤ 9223372036854775807) = true := decide_eq_true c24
    try have c27 : (9223372036854775807 < t23.size + 1) = False := eq_false (Nat.not_lt.2 c24)
    obtain ⟨t24, A16, H⟩ := sqD H
    obtain ⟨c28, H⟩ := sqI H
    have c29 := eq_true c28
    have c30 : decide ((t23 ++ (⟨#[58]⟩ : ByteArray)).size + t24.size ≤ 9223372036854775807) = true := decide_eq_true c28
    try have c31 : (9223372036854775807 < (t23 ++ (⟨#[58]⟩ : ByteArray)).size + t24.size) = False := eq_false (Nat.not_lt.2 c28)
    try have c32 : (9223372036854775807 < t23.size + 1 + t24.size) = False := by (have h_ := c31; (repeat rw [ByteArray.size_append] at h_); exact h_)
    obtain ⟨rfl, rfl, rfl, rfl⟩ := sqO4 H
    try go_wp2_with (first | ((with_reducible refine sqc 98 rfl ?_); refine sqC (some 106) func98 #[.agg #[.int .i64 t17, .int .i64 t18]] ?_; (with_reducible refine (spec_LeastOf.calls k t17 t18 t20 t21 t22 _ A14.1).mono ?_); refine sqV fun w26 hb => ?_; replace O0 := sqa (Kd.R_below (by (with_reducible repeat (first | apply Kd.R_alloc | apply Kd.R_drewN | apply Kd.R_drew)); exact (Kd.R_mono (sqr2 O0.1 B13.1) (fun _ h_ => h_.1))) hb); replace B0 := sqH N28 B0 hb; replace B2 := sqH N30 B2 hb; replace B9 := sqH N32 B9 hb; replace B10 := sqH N34 B10 hb; replace B12 := sqH N36 B12 hb; replace B13 := sqa (blk_below (g := g2) (o := .cells #[.int .i64 t17, .int .i64 t18] 116 (0, 0)) (by refine sqPut (cs := #[.int .i64 t17, .int .i64 0]) ?_ 1; refine sqPut (cs := #[.int .i64 0, .int .i64 0]) ?_ 0; exact sqK B13) hb); replace HB := sqa (below_step (Z31 E0 E1 E2 E3 E5 E6) hb); (try clear hb)) | ((with_reducible refine sqd 18 rfl ?_); refine sqBox (N := 18) (cs := #[.int .i64 0, .int .i64 0]) (t := 116) ?_; intro g3 hg w27 B14 hb; replace O0 := sqU O0 hb; have GW1 := sqa ((by rw [hg]; exact (below_size (Z31 E0 E1 E2 E3 E5 E6)) : w.heap.size ≤ g3)); have E7 := GW1; replace HB := sqa (below_step (Z31 E0 E1 E2 E3 E5 E6) hb); obtain ⟨N38, N39⟩ := sqM hg B0; replace B0 := sqT B0 hb; obtain ⟨N40, N41⟩ := sqM hg B2; replace B2 := sqT B2 hb; obtain ⟨N42, N43⟩ := sqM hg B9; replace B9 := sqT B9 hb; obtain ⟨N44, N45⟩ := sqM hg B10; replace B10 := sqT B10 hb; obtain ⟨N46, N47⟩ := sqM hg B12; replace B12 := sqT B12 hb; obtain ⟨N48, N49⟩ := sqM hg B13; replace B13 := sqT B13 hb; clear hb hg; have := N39.1; have := N38.1; have := N41.1; have := N40.1; have := N43.1; have := N42.1; have := N45.1; have := N44.1; have := N47.1; have := N46.1; have := N49.1; have := N48.1; obtain ⟨_, _, _, _⟩ := sqY2 B14))
    obtain ⟨w28, hw_⟩ : ∃ w_, (w27.setCell ⟨g3, 0, none⟩ (.int .i64 t20)).setCell ⟨g3, 1, none⟩ (.int .i64 t21) = w_ := ⟨_, rfl⟩
    replace O0 : Aside0 (Kd.R k31 31 w28 w.heap.size (fun k_ => k_ ≠ gb410) (.slice Ao21 t1.length co21) t1) := by rw [← hw_]; exact ⟨by (with_reducible repeat (first | apply Kd.R_alloc | apply Kd.R_drewN | apply Kd.R_drew)); exact Kd.R_mono (sqr2 O0.1 B14.1) (fun _ hk => hk.1.2)⟩
    replace B0 := sqJ hw_ N38 B0
    replace B2 := sqJ hw_ N40 B2
    replace B9 := sqJ hw_ N42 B9
    replace B10 := sqJ hw_ N44 B10
    replace B12 := sqJ hw_ N46 B12
    replace B13 := sqJ hw_ N48 B13
    replace B14 : Aside0 (w28.heap[g3]? = some (.cells #[.int .i64 t20, .int .i64 t21] 116 (0, 0))) := by rw [← hw_]; exact ⟨by refine sqPut (cs := #[.int .i64 t20, .int .i64 0]) ?_ 1; refine sqPut (cs := #[.int .i64 0, .int .i64 0]) ?_ 0; exact sqK B14⟩
    replace HB : Aside0 (Below w.heap.size w w28) := by rw [← hw_]; exact ⟨Z32 E0 E1 E2 E3 E5 E6 E7⟩
    rw [hw_]; clear hw_
    replace O0 := sqa (Kd.R_drew O0.1)
    replace B0 := sqa (blk_drew B0.1)
    replace B2 := sqa (blk_drew B2.1)
    replace B9 := sqa (blk_drew B9.1)
    replace B10 := sqa (blk_drew B10.1)
    replace B12 := sqa (blk_drew B12.1)
    replace B13 := sqa (blk_drew B13.1)
    replace B14 := sqa (blk_drew B14.1)
    replace HB := sqa (below_drew1 HB.1)
    refine start_ (n := 11) (S := fun w' => w'.cell? ⟨g0, 0, none⟩ = some (.int .i64 t393) ∧ w'.cell? ⟨g0, 1, none⟩ = some (.int .i64 t394) ∧ w'.cell? ⟨g0, 2, none⟩ = some (.slice Ao21 t1.length co21) ∧ w'.cell? ⟨g3, 0, none⟩ = some (.int .i64 t20) ∧ w'.cell? ⟨g3, 1, none⟩ = some (.int .i64 t21)) (ds := []) #[false, false, false, false, false, false, false, false, false, false, false] (by kernel_rfl) rfl rfl (sqk2 B9 B14) (fun hHeld => ?_); refine with_tabW spec_DeskLine.tab33 spec_DeskLine.bits33 (fun HT_ HW_ => ?_)
    generalize w28.drew = w31 at O0 B0 B2 B9 B10 B12 B13 B14 HB hHeld ⊢
    refine sqP 1 (some 110) (h := ?_)
    refine sqP 5 (some 114) (h := ?_)
    refine sqQ 0 (some 109) hHeld (h := ?_)
    refine sqQ 2 (some 111) hHeld (h := ?_)
    refine sqQ 6 (some 115) hHeld (h := ?_)
    refine one_ (i := 3) (N := some 112) #[true, true, true, true, false, true, true, false, false, false, false] rfl rfl (one_of HT_.out (by kernel_rfl)) (by decide) (fun K hK => ?_)
    refine goes_ func93 (by kernel_rfl) rfl #[.int .i64 t20] (by rfl) rfl rfl sqA ?_
    with_reducible refine (spec_l1Number.calls k t20 t23 _ A15.1).mono ?_
    rintro e w32 ⟨rfl, hb⟩
    refine ⟨_, rfl, ?_⟩
    replace O0 := sqU O0 hb
    replace B0 := sqT B0 hb
    replace B2 := sqT B2 hb
    replace B9 := sqT B9 hb
    replace B10 := sqT B10 hb
    replace B12 := sqT B12 hb
    replace B13 := sqT B13 hb
    replace B14 := sqT B14 hb
    replace HB := sqa (below_step (Z32 E0 E1 E2 E3 E5 E6 E7) hb)
    (try clear hb)
    (try clear hb2)
    (try clear hk)
    (try clear hi)
    refine hK.out _ _ (sqk2 B9 B14) (fun hHeld => ?_)
    clear hK K
    refine sqN (some 112) ?_
    refine sqP 4 (some 113) (h := ?_)
    refine one_ (i := 7) (N := some 116) #[true, true, true, true, true, true, true, true, false, false, false] rfl rfl (one_of HT_.out (by kernel_rfl)) (by decide) (fun K hK => ?_)
    refine goes_ func93 (by kernel_rfl) rfl #[.int .i64 t21] (by rfl) rfl rfl sqA ?_
    with_reducible refine (spec_l1Number.calls k t21 t24 _ A16.1).mono ?_
    rintro e w33 ⟨rfl, hb⟩
    refine ⟨_, rfl, ?_⟩
    replace O0 := sqU O0 hb
    replace B0 := sqT B0 hb
    replace B2 := sqT B2 hb
    replace B9 := sqT B9 hb
    replace B10 := sqT B10 hb
    replace B12 := sqT B12 hb
    replace B13 := sqT B13 hb
    replace B14 := sqT B14 hb
    replace HB := sqa (below_step (Z32 E0 E1 E2 E3 E5 E6 E7) hb)
    (try clear hb)
    (try clear hb2)
    (try clear hk)
    (try clear hi)
    refine hK.out _ _ (sqk2 B9 B14) (fun hHeld => ?_)
    clear hK K
    refine sqN (some 116) ?_
    refine sqP 8 (some 117) (h := ?_)
    refine one_ (i := 9) (N := none) #[true, true, true, true, true, true, true, true, true, true, false] rfl rfl (one_of HT_.out (by kernel_rfl)) (by decide) (fun K hK => ?_)
    have hs12 : w33.cell? ⟨gb391, 0, none⟩ = some (.int .i64 0) := (blk_cell B2.1 0).trans rfl
    have hfs12 := blk_frozen B2.1 0
    have hns16 := N0.1
    have hns17 := N5.1
    have hns18 := N9.1
    have hns19 := N23.1
    have hns20 := N31.1
    have hns21 := N41.1
    have hms16 := N1.1
    have hms17 := N4.1
    have hms18 := N8.1
    have hms19 := N22.1
    have hms20 := N30.1
    have hms21 := N40.1
    have hs13 : w33.cell? ⟨gb391, 1, none⟩ = some (.int .i64 0) := (blk_cell B2.1 1).trans rfl
    have hfs13 := blk_frozen B2.1 1
    have hs14 : w33.cell? ⟨gb391, 2, none⟩ = some (.slice none 0 0) := (blk_cell B2.1 2).trans rfl
    have hfs14 := blk_frozen B2.1 2
    refine skip_ (w1 := ?_) (by rfl) rfl ?_ ?_
    rotate_left
    ·go_simp
     rfl
    refine hK.out _ _ (sql2 N5 N41 hHeld) (fun hHeld => ?_)
    clear hK K
    refine sqP 10 (some 5) (h := ?_)
    refine done_ (done_of HT_.out (by kernel_rfl)) ?_
    try go_wp2
    refine sqE gb391 34 #[.int .i64 t393, .int .i64 t394, .slice Ao21 t1.length co21] (Z22 B2) underlying34 ?_
    exact ⟨_, Z16, Kd.Q_of_R (by (with_reducible repeat (first | apply Kd.R_alloc | apply Kd.R_drewN | apply Kd.R_drew)); exact Kd.R_mono (sqr3 O0.1 B2.1) (fun _ hk => trivial)), Z32 E0 E1 E2 E3 E5 E6 E7⟩
   obtain rfl := sqb c23
   rw [if_neg sqF] at H
   obtain ⟨rfl, rfl, rfl, rfl⟩ := sqO4 H
   go_wp2_with fail
   refine sqE gb391 34 #[.int .i64 t393, .int .i64 t394, .slice Ao21 t1.length co21] (by refine sqPut (cs := #[.int .i64 t393, .int .i64 t394, .slice none 0 0]) ?_ 2; refine sqPut (cs := #[.int .i64 t393, .int .i64 0, .slice none 0 0]) ?_ 1; refine sqPut (cs := #[.int .i64 0, .int .i64 0, .slice none 0 0]) ?_ 0; refine sqFar ?_ N30; refine sqFar ?_ N30; exact sqK B2) underlying34 ?_
   exact ⟨_, Z16, Kd.Q_of_R (by (with_reducible repeat (first | apply Kd.R_alloc | apply Kd.R_drewN | apply Kd.R_drew)); exact Kd.R_mono (Kd.R_far (p := ⟨gb391, 2, none⟩) (Kd.R_far (p := ⟨gb391, 1, none⟩) (Kd.R_far (p := ⟨gb391, 0, none⟩) (Kd.R_far (p := ⟨g2, 1, none⟩) (Kd.R_far (p := ⟨g2, 0, none⟩) (Kd.R_types (Kd.R_types O0.1 B13.1 (by decide)) B2.1 (by decide)) (fun _ hk => hk.1.2) (.int .i64 t17)) (fun _ hk => hk.1.2) (.int .i64 t18)) (fun _ hk => hk.2) (.int .i64 t393)) (fun _ hk => hk.2) (.int .i64 t394)) (fun _ hk => hk.2) (.slice Ao21 t1.length co21)) (fun _ hk => trivial)), Z31 E0 E1 E2 E3 E5 E6⟩
  rw [if_neg c20] at H
  have c21 : (a1.toList == ([108, 105, 110, 107] : List UInt8)) = false := sqe0 c20
  have c22 : (a1.toList != ([108, 105, 110, 107] : List UInt8)) = true := sqn1 c20
  (first | rw [c21] | rw [c22] | simp only [i64_w, i32_w, c21, c22] | skip)
  obtain ⟨t25, A17, H⟩ := sqD H
  have HC0 := sqa H
  clear H
  go_upto_region 35 with (first | ((with_reducible refine sqc 99 rfl ?_); refine sqC (some 119) func99 #[.string a1, .int .u8 32] ?_; (with_reducible refine (spec_l1Cut.calls k a1 32 t25 _ A17.1).mono ?_); rintro e w34 ⟨v4, rfl, ho0, hb⟩; refine ⟨_, rfl, ?_⟩; replace O0 := sqa (Kd.R_below (Z28 O0) hb); have O4 := sqa (Kd.R_lower ho0 (below_size (Z15 E0 E1 E2 E3 E5))); replace B0 := sqH N20 B0 hb; replace B2 := sqH N22 B2 hb; replace B9 := sqH N24 B9 hb; replace B10 := sqH N26 B10 hb; replace B12 := sqa (blk_below (g := gb410) (o := .cells #[.int .i64 a0_0, .int .i64 a0_1] 31 (0, 0)) (Z27 B12) hb); replace HB := sqa (below_step (Z15 E0 E1 E2 E3 E5) hb); (try clear hb); (try clear ho0)))
  (try simp only [Act.put, List.setIfInBounds_toArray, List.set_cons_zero, List.set_cons_succ])
  go_cut [128] (fun v5 wc => ∃ (kq : Nat) (x0 : Bool), v5 = .bool x0 ∧ Aside0 (spec_DeskLine.j0 kq t25 x0 t393 t394 t1 a0_0 a0_1 = some (r1, r2, r3, r4)) ∧ Aside0 (kq ≤ k) ∧ Aside0 (Kd.R Kd.string 9 wc w.heap.size (fun _ => True) v4 t25) ∧ Aside0 (Kd.Q k31 31 wc w.heap.size (fun k_ => k_ ≠ gb410) (.slice Ao21 t1.length co21) t1) ∧ Aside0 (wc.heap[gb390]? = some (.cells #[.int .i64 a0_0, .int .i64 a0_1, (.slice A0_2 l0_2.length c0_2)] 34 (0, 0))) ∧ Aside0 (wc.heap[gb391]? = some (.cells #[.int .i64 0, .int .i64 0, (.slice none 0 0)] 34 (0, 0))) ∧ Aside0 (wc.heap[g0]? = some (.cells #[.int .i64 t393, .int .i64 t394, (.slice Ao21 t1.length co21)] 34 (0, 0))) ∧ Aside0 (wc.heap[gb402]? = some (.cells #[.int .i64 t399, .string t400] 38 (0, 0))) ∧ Aside0 (wc.heap[gb410]? = some (.cells #[.int .i64 a0_0, .int .i64 a0_1] 31 (0, 0))) ∧ Aside0 (Below w.heap.size w wc))
  case first =>
   have H := HC0.1
   clear HC0
   by_cases c33 : (t25.length : Int) = 2
   ·rw [if_pos c33] at H
    have c34 : ((t25.length : Int) == 2) = true := sqe1 c33
    have c35 : ((t25.length : Int) != 2) = false := sqn0 c33
    clear c33
    (first | rw [c34] | (simp only [i64_w, i32_w]; rw [c34]) | skip)
    obtain ⟨c36, H⟩ := sqI H
    have c37 : decide (0 < (t25.length : Int)) = true := decide_eq_true c36
    have c38 : decide (0 < t25.length) = true := decide_eq_true (by omega)
    clear c36
    have H' := sqa H
    clear H
    obtain ⟨Ao2, co2, eo2⟩ := Kd.R_slice O4.1
    subst eo2
    have p0 : 0 ≤ (0 : Int) := (by omega)
    have q0 : 0 < (t25.length : Int) := of_decide_eq_true Z9
    obtain ⟨ad0, e0, hx0⟩ := Kd.at_string (Kd.R_reads' O4.1).2.2 0 p0 q0
    cases e0
    have qi0 : (0 < t25.length) = True := eq_true (by omega)
    (try rw [show ((0 : Int)).toNat = 0 from rfl] at hx0)
    (try rw [Addr.add_zero'] at hx0)
    replace p0 := eq_true p0
    replace q0 := eq_true q0
    go_wp2
    go_meet
    case rel => exact ⟨_, (((rdOf ByteArray.empty t25 0).toList != ([99, 111, 108, 111, 117, 114, 115] : List UInt8))), Z4, H', ⟨Z5⟩, ⟨sqR O4⟩, ⟨Kd.Q_of_R (Z33 O0)⟩, ⟨sqK B0⟩, ⟨sqK B2⟩, ⟨sqK B9⟩, ⟨sqK B10⟩, ⟨sqK B12⟩, ⟨Z15 E0 E1 E2 E3 E5⟩⟩
   rw [if_neg c33] at H
   have c34 : ((t25.length : Int) == 2) = false := sqe0 c33
   have c35 : ((t25.length : Int) != 2) = true := sqn1 c33
   (first | rw [c34] | (simp only [i64_w, i32_w]; rw [c34]) | skip)
   have H' := sqa H
   clear H
   obtain ⟨Ao3, co3, eo3⟩ := Kd.R_slice O4.1
   subst eo3
   go_wp2
   go_meet
   case rel => exact ⟨_, (true), Z4, H', ⟨Z5⟩, ⟨sqR O4⟩, ⟨Kd.Q_of_R (Z33 O0)⟩, ⟨sqK B0⟩, ⟨sqK B2⟩, ⟨sqK B9⟩, ⟨sqK B10⟩, ⟨sqK B12⟩, ⟨Z15 E0 E1 E2 E3 E5⟩⟩
  case rest =>
   clear HC0
   obtain ⟨kq, x0, rfl, HA, HJ0, O5, O6, B0, B2, B9, B10, B12, HB⟩ := hcut
   cases kq with
   | zero => exact absurd HA.out (by simp [spec_DeskLine.j0])
   | succ kj0 =>
    have H := HA.out
    clear HA
    simp only [spec_DeskLine.j0] at H
    by_cases c39 : x0 = true
    ·subst c39
     rw [if_pos rfl] at H
     obtain ⟨rfl, rfl, rfl, rfl⟩ := sqO4 H
     have := N3.1
     have := N2.1
     have := N5.1
     have := N4.1
     have := N10.1
     have := N11.1
     have := N24.1
     have := N25.1
     obtain ⟨_, _, _, _, _, _⟩ := sqY3 B9
     have := N1.1
     have := N0.1
     have := N8.1
     have := N9.1
     have := N22.1
     have := N23.1
     obtain ⟨_, _, _, _, _, _⟩ := sqY3 B2
     go_wp2
     refine sqE gb391 34 #[.int .i64 t393, .int .i64 t394, .slice Ao21 t1.length co21] (Z22 B2) underlying34 ?_
     exact ⟨_, Z16, Z34 O6 B2, Z15 E0 E1 E2 E3 E5⟩
    obtain rfl := sqb c39
    rw [if_neg sqF] at H
    obtain ⟨c40, H⟩ := sqI H
    have c41 : decide (1 < (t25.length : Int)) = true := decide_eq_true c40
    have c42 : decide (1 < t25.length) = true := decide_eq_true (by omega)
    clear c40
    obtain ⟨⟨t26, t27⟩, A18, H⟩ := sqD H
    try dsimp only at H
    have HC1 := sqa H
    clear H
    obtain ⟨Ao4, co4, eo4⟩ := Kd.R_slice O5.1
    subst eo4
    have p1 : 0 ≤ (1 : Int) := (by omega)
    have q1 : 1 < (t25.length : Int) := of_decide_eq_true Z9
    obtain ⟨ad1, e1, hx1⟩ := Kd.at_string (Kd.R_reads' O5.1).2.2 1 p1 q1
    cases e1
    (try simp only [show (1 : Int).toNat = 1 from rfl, Nat.reduceMul, Nat.reduceEqDiff, Go.Addr.add, ↓reduceIte] at hx1)
    have qi1 : (1 < t25.length) = True := eq_true (by omega)
    (try rw [show ((1 : Int)).toNat = 1 from rfl] at hx1)
    replace p1 := eq_true p1
    replace q1 := eq_true q1
    go_upto_region 38 with (first | ((with_reducible refine sqc 100 rfl ?_); refine sqC (some 134) func100 #[.string (rdOf ByteArray.empty t25 1)] ?_; (with_reducible refine (spec_l1Digits.calls kj0 (rdOf ByteArray.empty t25 1) t26 t27 _ A18.1).mono ?_); rintro e w' ⟨rfl, ⟨nd, rfl⟩⟩; refine ⟨_, rfl, ?_⟩))
    (try simp only [Act.put, List.setIfInBounds_toArray, List.set_cons_zero, List.set_cons_succ])
    go_cut [142] (fun v6 wc => ∃ (kq : Nat) (x1 : Bool), v6 = .bool x1 ∧ Aside0 (spec_DeskLine.j1 kq t26 x1 t393 t394 t1 a0_0 a0_1 = some (r1, r2, r3, r4)) ∧ Aside0 (kq ≤ kj0) ∧ Aside0 (Kd.Q k31 31 wc w.heap.size (fun k_ => k_ ≠ gb410) (.slice Ao21 t1.length co21) t1) ∧ Aside0 (wc.heap[gb390]? = some (.cells #[.int .i64 a0_0, .int .i64 a0_1, (.slice A0_2 l0_2.length c0_2)] 34 (0, 0))) ∧ Aside0 (wc.heap[gb391]? = some (.cells #[.int .i64 0, .int .i64 0, (.slice none 0 0)] 34 (0, 0))) ∧ Aside0 (wc.heap[g0]? = some (.cells #[.int .i64 t393, .int .i64 t394, (.slice Ao21 t1.length co21)] 34 (0, 0))) ∧ Aside0 (wc.heap[gb402]? = some (.cells #[.int .i64 t399, .string t400] 38 (0, 0))) ∧ Aside0 (wc.heap[gb410]? = some (.cells #[.int .i64 a0_0, .int .i64 a0_1] 31 (0, 0))) ∧ Aside0 (Below w.heap.size w wc))
    case first =>
     have H := HC1.1
     clear HC1
     by_cases c43 : t27 = true
     ·subst c43
      rw [if_pos rfl] at H
      have H' := sqa H
      clear H
      go_wp2
      go_meet
      case rel => exact ⟨_, (decide (t26 < 0)), Z4, H', ⟨by have := HJ0.out; first | omega | exact Nat.le_refl _⟩, ⟨Z12 O6⟩, ⟨sqK B0⟩, ⟨sqK B2⟩, ⟨sqK B9⟩, ⟨sqK B10⟩, ⟨sqK B12⟩, ⟨Z15 E0 E1 E2 E3 E5⟩⟩
     obtain rfl := sqb c43
     rw [if_neg sqF] at H
     have H' := sqa H
     clear H
     go_wp2
     go_meet
     case rel => exact ⟨_, (true), Z4, H', ⟨by have := HJ0.out; first | omega | exact Nat.le_refl _⟩, ⟨Z12 O6⟩, ⟨sqK B0⟩, ⟨sqK B2⟩, ⟨sqK B9⟩, ⟨sqK B10⟩, ⟨sqK B12⟩, ⟨Z15 E0 E1 E2 E3 E5⟩⟩
    case rest =>
     clear HC1
     obtain ⟨kq, x1, rfl, HA, HJ1, O6, B0, B2, B9, B10, B12, HB⟩ := hcut
     cases kq with
     | zero => exact absurd HA.out (by simp [spec_DeskLine.j1])
     | succ kj1 =>
      have H := HA.out
      clear HA
      simp only [spec_DeskLine.j1] at H
      by_cases c44 : x1 = true
      ·subst c44
       rw [if_pos rfl] at H
       obtain ⟨rfl, rfl, rfl, rfl⟩ := sqO4 H
       have := N3.1
       have := N2.1
       have := N5.1
       have := N4.1
       have := N10.1
       have := N11.1
       have := N24.1
       have := N25.1
       obtain ⟨_, _, _, _, _, _⟩ := sqY3 B9
       have := N1.1
       have := N0.1
       have := N8.1
       have := N9.1
       have := N22.1
       have := N23.1
       obtain ⟨_, _, _, _, _, _⟩ := sqY3 B2
       go_wp2
       refine sqE gb391 34 #[.int .i64 t393, .int .i64 t394, .slice Ao21 t1.length co21] (Z22 B2) underlying34 ?_
       exact ⟨_, Z16, Z34 O6 B2, Z15 E0 E1 E2 E3 E5⟩
      obtain rfl := sqb c44
      rw [if_neg sqF] at H
      obtain ⟨t28, A19, H⟩ := sqD H
      by_cases c45 : t28 = true
      ·subst c45
       rw [if_pos rfl] at H
       obtain ⟨t29, A20, H⟩ := sqD H
       obtain ⟨t30, A21, H⟩ := sqD H
       obtain ⟨rfl, rfl, rfl, rfl⟩ := sqO4 H
       try go_wp2_with (first | ((with_reducible refine sqc 101 rfl ?_); refine sqC (some 145) func101 #[.int .i64 t26, .int .i64 1, .int .i64 12] ?_; (with_reducible refine (spec_l1In.calls t26 1 12 true _ A19.1).mono ?_); rintro e w' ⟨rfl, ⟨nd, rfl⟩⟩; refine ⟨_, rfl, ?_⟩; (try (rw [drewN_self wc]; generalize hq_ : World.drewN wc _ = wc; have n0_ : Aside0 (Kd.Q k31 31 wc w.heap.size (fun k_ => k_ ≠ gb410) (.slice Ao21 t1.length co21) t1) := ⟨by rw [← hq_]; exact (Z12 O6)⟩; have n1_ : Aside0 (wc.heap[gb390]? = some (.cells #[.int .i64 a0_0, .int .i64 a0_1, .slice A0_2 l0_2.length c0_2] 34 (0, 0))) := ⟨Z35 B0⟩; have n2_ : Aside0 (wc.heap[gb391]? = some (.cells #[.int .i64 0, .int .i64 0, .slice none 0 0] 34 (0, 0))) := ⟨Z35 B2⟩; have n3_ : Aside0 (wc.heap[g0]? = some (.cells #[.int .i64 t393, .int .i64 t394, .slice Ao21 t1.length co21] 34 (0, 0))) := ⟨Z35 B9⟩; have n4_ : Aside0 (wc.heap[gb402]? = some (.cells #[.int .i64 t399, .string t400] 38 (0, 0))) := ⟨Z35 B10⟩; have n5_ : Aside0 (wc.heap[gb410]? = some (.cells #[.int .i64 a0_0, .int .i64 a0_1] 31 (0, 0))) := ⟨Z35 B12⟩; have n6_ : Aside0 (Below w.heap.size w wc) := ⟨by rw [← hq_]; exact (Z15 E0 E1 E2 E3 E5)⟩; clear O6 B0 B2 B9 B10 B12 HB hq_; have O6 := n0_; have B0 := n1_; have B2 := n2_; have B9 := n3_; have B10 := n4_; have B12 := n5_; have HB := n6_; clear n0_ n1_ n2_ n3_ n4_ n5_ n6_))))
       replace O6 := sqa (Kd.Q_drew O6.1)
       replace B0 := sqa (blk_drew B0.1)
       replace B2 := sqa (blk_drew B2.1)
       replace B9 := sqa (blk_drew B9.1)
       replace B10 := sqa (blk_drew B10.1)
       replace B12 := sqa (blk_drew B12.1)
       replace HB := sqa (below_drew1 HB.1)
       refine start_ (n := 7) (S := fun w' => w'.cell? ⟨g0, 0, none⟩ = some (.int .i64 t393) ∧ w'.cell? ⟨g0, 1, none⟩ = some (.int .i64 t394) ∧ w'.cell? ⟨g0, 2, none⟩ = some (.slice Ao21 t1.length co21) ∧ w'.cell? ⟨gb410, 0, none⟩ = some (.int .i64 a0_0) ∧ w'.cell? ⟨gb410, 1, none⟩ = some (.int .i64 a0_1)) (ds := []) #[false, false, false, false, false, false, false] (by kernel_rfl) rfl rfl (sqk2 B9 B12) (fun hHeld => ?_)
       generalize wc.drew = w35 at O6 B0 B2 B9 B10 B12 HB hHeld ⊢
       refine sqPk 2 (some 150) (h := ?_)
       refine sqQk 0 (some 148) hHeld (h := ?_)
       refine sqQk 1 (some 149) hHeld (h := ?_)
       refine one_ (i := 3) (N := some 151) #[true, true, true, true, false, false, false] rfl rfl (by kernel_rfl) (by decide) (fun K hK => ?_)
       refine goes_ func102 (by kernel_rfl) rfl #[.agg #[.int .i64 a0_0, .int .i64 a0_1], .int .i64 t26] (by rfl) rfl rfl sqA ?_
       with_reducible refine (spec_TiedFor.calls kj1 a0_0 a0_1 t26 t29 _ A20.1).mono ?_
       rintro e w36 ⟨rfl, hb⟩
       refine ⟨_, rfl, ?_⟩
       replace O6 := sqa (Kd.Q_below (Z12 O6) hb)
       replace B0 := sqT B0 hb
       replace B2 := sqT B2 hb
       replace B9 := sqT B9 hb
       replace B10 := sqT B10 hb
       replace B12 := sqT B12 hb
       replace HB := sqa (below_step (Z15 E0 E1 E2 E3 E5) hb)
       (try clear hb)
       (try clear hb2)
       (try clear hk)
       (try clear hi)
       refine hK.out _ _ (sqk2 B9 B12) (fun hHeld => ?_)
       clear hK K
       refine sqN (some 151) ?_
       refine one_ (i := 4) (N := some 152) #[true, true, true, true, true, false, false] rfl rfl (by kernel_rfl) (by decide) (fun K hK => ?_)
       refine goes_ func93 (by kernel_rfl) rfl #[.int .i64 t29] (by rfl) rfl rfl sqA ?_
       with_reducible refine (spec_l1Number.calls kj1 t29 t30 _ A21.1).mono ?_
       rintro e w37 ⟨rfl, hb⟩
       refine ⟨_, rfl, ?_⟩
       replace O6 := sqa (Kd.Q_below (Z12 O6) hb)
       replace B0 := sqT B0 hb
       replace B2 := sqT B2 hb
       replace B9 := sqT B9 hb
       replace B10 := sqT B10 hb
       replace B12 := sqT B12 hb
       replace HB := sqa (below_step (Z15 E0 E1 E2 E3 E5) hb)
       (try clear hb)
       (try clear hb2)
       (try clear hk)
       (try clear hi)
       refine hK.out _ _ (sqk2 B9 B12) (fun hHeld => ?_)
       clear hK K
       refine sqN (some 152) ?_
       refine one_ (i := 5) (N := none) #[true, true, true, true, true, true, false] rfl rfl (by kernel_rfl) (by decide) (fun K hK => ?_)
       have hs15 : w37.cell? ⟨gb391, 0, none⟩ = some (.int .i64 0) := (blk_cell B2.1 0).trans rfl
       have hfs15 := blk_frozen B2.1 0
       have hns22 := N0.1
       have hns23 := N5.1
       have hns24 := N9.1
       have hns25 := N23.1
       have hms22 := N1.1
       have hms23 := N4.1
       have hms24 := N8.1
       have hms25 := N22.1
       have hs16 : w37.cell? ⟨gb391, 1, none⟩ = some (.int .i64 0) := (blk_cell B2.1 1).trans rfl
       have hfs16 := blk_frozen B2.1 1
       have hs17 : w37.cell? ⟨gb391, 2, none⟩ = some (.slice none 0 0) := (blk_cell B2.1 2).trans rfl
       have hfs17 := blk_frozen B2.1 2
       refine skip_ (w1 := ?_) (by rfl) rfl ?_ ?_
       rotate_left
       ·go_simp
        rfl
       refine hK.out _ _ (sql2 N5 N23 hHeld) (fun hHeld => ?_)
       clear hK K
       refine sqPk 6 (some 5) (h := ?_)
       refine done_ (by kernel_rfl) ?_
       try go_wp2
       refine sqE gb391 34 #[.int .i64 t393, .int .i64 t394, .slice Ao21 t1.length co21] (Z22 B2) underlying34 ?_
       exact ⟨_, Z16, Z34 O6 B2, Z15 E0 E1 E2 E3 E5⟩
      obtain rfl := sqb c45
      rw [if_neg sqF] at H
      obtain ⟨rfl, rfl, rfl, rfl⟩ := sqO4 H
      go_wp2_with (first | ((with_reducible refine sqc 101 rfl ?_); refine sqC (some 145) func101 #[.int .i64 t26, .int .i64 1, .int .i64 12] ?_; (with_reducible refine (spec_l1In.calls t26 1 12 false _ A19.1).mono ?_); rintro e w' ⟨rfl, ⟨nd, rfl⟩⟩; refine ⟨_, rfl, ?_⟩; (try (rw [drewN_self wc]; generalize hq_ : World.drewN wc _ = wc; have n0_ : Aside0 (Kd.Q k31 31 wc w.heap.size (fun k_ => k_ ≠ gb410) (.slice Ao21 t1.length co21) t1) := ⟨by rw [← hq_]; exact (Z12 O6)⟩; have n1_ : Aside0 (wc.heap[gb390]? = some (.cells #[.int .i64 a0_0, .int .i64 a0_1, .slice A0_2 l0_2.length c0_2] 34 (0, 0))) := ⟨Z35 B0⟩; have n2_ : Aside0 (wc.heap[gb391]? = some (.cells #[.int .i64 0, .int .i64 0, .slice none 0 0] 34 (0, 0))) := ⟨Z35 B2⟩; have n3_ : Aside0 (wc.heap[g0]? = some (.cells #[.int .i64 t393, .int .i64 t394, .slice Ao21 t1.length co21] 34 (0, 0))) := ⟨Z35 B9⟩; have n4_ : Aside0 (wc.heap[gb402]? = some (.cells #[.int .i64 t399, .string t400] 38 (0, 0))) := ⟨Z35 B10⟩; have n5_ : Aside0 (wc.heap[gb410]? = some (.cells #[.int .i64 a0_0, .int .i64 a0_1] 31 (0, 0))) := ⟨Z35 B12⟩; have n6_ : Aside0 (Below w.heap.size w wc) := ⟨by rw [← hq_]; exact (Z15 E0 E1 E2 E3 E5)⟩; clear O6 B0 B2 B9 B10 B12 HB hq_; have O6 := n0_; have B0 := n1_; have B2 := n2_; have B9 := n3_; have B10 := n4_; have B12 := n5_; have HB := n6_; clear n0_ n1_ n2_ n3_ n4_ n5_ n6_)); have := N3.1; have := N2.1; have := N5.1; have := N4.1; have := N10.1; have := N11.1; have := N24.1; have := N25.1; obtain ⟨_, _, _, _, _, _⟩ := sqY3 B9; have := N1.1; have := N0.1; have := N8.1; have := N9.1; have := N22.1; have := N23.1; obtain ⟨_, _, _, _, _, _⟩ := sqY3 B2))
      refine sqE gb391 34 #[.int .i64 t393, .int .i64 t394, .slice Ao21 t1.length co21] (Z22 B2) underlying34 ?_
      exact ⟨_, Z16, Z34 O6 B2, Z15 E0 E1 E2 E3 E5⟩
 obtain rfl := sqb c4
 rw [if_neg sqF] at H
 obtain ⟨rfl, rfl, rfl, rfl⟩ := sqO4 H
 go_wp2_with fail
 refine sqE gb391 34 #[.int .i64 0, .int .i64 0, .slice none 0 0] (Z20 B2) underlying34 ?_
 exact ⟨_, Z16, Kd.Q_of_R Z21, sqB2 HB E0 E1⟩

end Go.Proofs.YtofmlbgfcohhoaaGreatDoor.PFnExactDeskSay
