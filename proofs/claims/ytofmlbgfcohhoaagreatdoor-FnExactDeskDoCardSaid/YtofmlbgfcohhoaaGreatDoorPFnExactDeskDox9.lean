/- Lean functions of the Go functions that the law FnExactDeskDo reaches, each with its contract: made by a program of this session. -/
import Derived.Test.YtofmlbgfcohhoaaGreatDoorPFnExactDeskDox0
import Derived.Test.YtofmlbgfcohhoaaGreatDoorPFnExactDeskDox1
import Derived.Test.YtofmlbgfcohhoaaGreatDoorPFnExactDeskDox2
import Derived.Test.YtofmlbgfcohhoaaGreatDoorPFnExactDeskDox3
import Derived.Test.YtofmlbgfcohhoaaGreatDoorPFnExactDeskDox8
namespace Go.Proofs.YtofmlbgfcohhoaaGreatDoor.PFnExactDeskDo
open Go.RowKit Go.Proofs.YtofmlbgfcohhoaaGreatDoorW.PrintWords Go.Proofs.YtofmlbgfcohhoaaGreatDoorW.PrintLast Go.Proofs.YtofmlbgfcohhoaaGreatDoorW.PrintMore Go.Proofs.YtofmlbgfcohhoaaGreatDoor.Lib
attribute [local go_sem] max2_int min2_int max_two min_two max_three min_three max_four min_four   -- for this text's walks alone
set_option linter.unusedVariables false
set_option linter.unusedSimpArgs false

attribute [local go_sem high] eqA31 eqA38
/-! ### spec_DeskDo: function 14 -/
mutual
def spec_DeskDo.j0 : Nat → Bool → Int → Int → List (S31) → Int → ByteArray → Int → Int → List (S31) → Option (Int × Int × (List (S31)) × Bool)
 | 0, _, _, _, _, _, _, _, _, _ => none
 | k + 1, x24, x227000, x227001, x227002, x228000, x228001, x236000, x236001, x236002 => if x24 = true then (if 0 ≤ (wrap64 ((x236002.length : Int) - 1)) then (if (wrap64 ((x236002.length : Int) - 1)) < (x236002.length : Int) then (if (wrap64 ((x236002.length : Int) - 1)) ≤ (x236002.length : Int) then (some ((rd_T31 x236002 (wrap64 ((x236002.length : Int) - 1))).f0, (rd_T31 x236002 (wrap64 ((x236002.length : Int) - 1))).f1, (x236002.take ((wrap64 ((x236002.length : Int) - 1)) : Int).toNat), true)) else (none)) else (none)) else (none)) else ((spec_l11Made.f k x227000 x227001 x228000 x228001).bind fun bt240 => (if bt240.2.2 = true then (spec_DeskDo.j1 k (bt240.1 == x227000 && (bt240.2.1 == x227001)) x236000 x236001 x236002 bt240.1 bt240.2.1) else (spec_DeskDo.j1 k true x236000 x236001 x236002 bt240.1 bt240.2.1)))
def spec_DeskDo.j1 : Nat → Bool → Int → Int → List (S31) → Int → Int → Option (Int × Int × (List (S31)) × Bool)
 | 0, _, _, _, _, _, _ => none
 | k + 1, x55, x236000, x236001, x236002, x244000, x244001 => if x55 = true then (some (x236000, x236001, x236002, false)) else (if x236002.length < 8796093022208 then ((some (x236002 ++ [(⟨x236000, x236001⟩ : S31)] : List (S31))).bind fun y244 => (if (y244.length : Int) > 8 then (if 1 ≤ (y244.length : Int) then (some (x244000, x244001, (y244.drop (1 : Int).toNat), true)) else (none)) else (some (x244000, x244001, y244, true)))) else (none))
end
def spec_DeskDo.f (k : Nat) (a0_0 : Int) (a0_1 : Int) (l0_2 : List (S31)) (a1_0 : Int) (a1_1 : ByteArray) : Option (Int × Int × (List (S31)) × Bool) := (spec_DeskOk.f k a0_0 a0_1 l0_2).bind fun t229 => (if t229 = true then ((spec_l11Copy.f a0_0 a0_1 l0_2).bind fun bt230 => (if (a1_0 == 4 && (a1_1.toList == ([] : List UInt8))) = true then (spec_DeskDo.j0 k (decide ((l0_2.length : Int) > 0)) a0_0 a0_1 l0_2 a1_0 a1_1 bt230.1 bt230.2.1 bt230.2.2) else (spec_DeskDo.j0 k false a0_0 a0_1 l0_2 a1_0 a1_1 bt230.1 bt230.2.1 bt230.2.2))) else (some (0, 0, ([] : List (S31)), false)))
theorem spec_DeskDo.mono_l : ∀ k, (∀ y0 y1 y2 y3 y4 y5 y6 y7 y8, LeO (spec_DeskDo.j0 k y0 y1 y2 y3 y4 y5 y6 y7 y8) (spec_DeskDo.j0 (k + 1) y0 y1 y2 y3 y4 y5 y6 y7 y8)) ∧ (∀ y0 y1 y2 y3 y4 y5, LeO (spec_DeskDo.j1 k y0 y1 y2 y3 y4 y5) (spec_DeskDo.j1 (k + 1) y0 y1 y2 y3 y4 y5))
 | 0 => ⟨fun _ _ _ _ _ _ _ _ _ r h => by simp [spec_DeskDo.j0] at h, fun _ _ _ _ _ _ r h => by simp [spec_DeskDo.j1] at h⟩
 | k + 1 => by
  obtain ⟨ih0, ih1⟩ := spec_DeskDo.mono_l k
  refine ⟨?_, ?_⟩
  ·intro y0 y1 y2 y3 y4 y5 y6 y7 y8
   unfold spec_DeskDo.j0
   repeat' first
   | (with_reducible exact ih0 _ _ _ _ _ _ _ _ _)
   | (with_reducible exact ih1 _ _ _ _ _ _)
   | (with_reducible exact spec_DeskOk.mono _ _ _ _)
   | (with_reducible exact spec_l11Made.mono _ _ _ _ _)
   | (with_reducible exact LeO.refl _)
   | (with_reducible exact LeO.none _)
   | (with_reducible refine LeO.ite ?_ ?_)
   | (with_reducible refine LeO.bind ?_ (fun _ => ?_))
  ·intro y0 y1 y2 y3 y4 y5
   unfold spec_DeskDo.j1
   repeat' first
   | (with_reducible exact ih0 _ _ _ _ _ _ _ _ _)
   | (with_reducible exact ih1 _ _ _ _ _ _)
   | (with_reducible exact spec_DeskOk.mono _ _ _ _)
   | (with_reducible exact spec_l11Made.mono _ _ _ _ _)
   | (with_reducible exact LeO.refl _)
   | (with_reducible exact LeO.none _)
   | (with_reducible refine LeO.ite ?_ ?_)
   | (with_reducible refine LeO.bind ?_ (fun _ => ?_))
theorem spec_DeskDo.mono : ∀ a0 a1 a2 a3 a4 k, LeO (spec_DeskDo.f k a0 a1 a2 a3 a4) (spec_DeskDo.f (k + 1) a0 a1 a2 a3 a4) := by
 intro a0 a1 a2 a3 a4 k
 obtain ⟨ih0, ih1⟩ := spec_DeskDo.mono_l k
 unfold spec_DeskDo.f
 repeat' first
   | (with_reducible exact ih0 _ _ _ _ _ _ _ _ _)
   | (with_reducible exact ih1 _ _ _ _ _ _)
   | (with_reducible exact spec_DeskOk.mono _ _ _ _)
   | (with_reducible exact spec_l11Made.mono _ _ _ _ _)
   | (with_reducible exact LeO.refl _)
   | (with_reducible exact LeO.none _)
   | (with_reducible refine LeO.ite ?_ ?_)
   | (with_reducible refine LeO.bind ?_ (fun _ => ?_))
set_option maxHeartbeats 8000000 in
set_option maxRecDepth 100000 in
theorem spec_DeskDo.calls (k : Nat) (a0_0 : Int) (a0_1 : Int) (A0_2 : Option Addr) (c0_2 : Nat) (l0_2 : List (S31)) (a1_0 : Int) (a1_1 : ByteArray) (r1 : Int) (r2 : Int) (r3 : List (S31)) (r4 : Bool) (w : World) (hr0_2 : Kd.C k31 w A0_2 l0_2.length l0_2) (hc0_2 : l0_2.length ≤ c0_2) (h : spec_DeskDo.f k a0_0 a0_1 l0_2 a1_0 a1_1 = some (r1, r2, r3, r4)) :
  Calls Tryz.prog 14 #[.agg #[.int .i64 a0_0, .int .i64 a0_1, .slice A0_2 l0_2.length c0_2], .agg #[.int .i64 a1_0, .string a1_1]] w fun e w' => ∃ v2_ : Value, e = .returned (.tuple #[.agg #[.int .i64 r1, .int .i64 r2, v2_], .bool r4]) ∧ Kd.Q k31 31 w' w.heap.size (fun _ => True) v2_ r3 ∧ Below w.heap.size w w' := by
 have hu34 := Tryz.underlying34
 have hu38 := Tryz.underlying38
 have hu31 := Tryz.underlying31
 have HR0_2 := Aside0.mk hr0_2
 have HC0_2 := Aside0.mk hc0_2
 clear hr0_2 hc0_2
 have HB := Aside0.mk (Below.refl w.heap.size w)
 have H : ((spec_DeskOk.f k a0_0 a0_1 l0_2).bind fun t229 => (if t229 = true then ((spec_l11Copy.f a0_0 a0_1 l0_2).bind fun bt230 => (if (a1_0 == 4 && (a1_1.toList == ([] : List UInt8))) = true then (spec_DeskDo.j0 k (decide ((l0_2.length : Int) > 0)) a0_0 a0_1 l0_2 a1_0 a1_1 bt230.1 bt230.2.1 bt230.2.2) else (spec_DeskDo.j0 k false a0_0 a0_1 l0_2 a1_0 a1_1 bt230.1 bt230.2.1 bt230.2.2))) else (some (0, 0, ([] : List (S31)), false)))) = some (r1, r2, r3, r4) := h
 clear h
 obtain ⟨t229, A3, H⟩ := sqD H
 by_cases c4 : t229 = true
 ·subst c4
  have H1 : ((spec_l11Copy.f a0_0 a0_1 l0_2).bind fun bt230 => (if (a1_0 == 4 && (a1_1.toList == ([] : List UInt8))) = true then (spec_DeskDo.j0 k (decide ((l0_2.length : Int) > 0)) a0_0 a0_1 l0_2 a1_0 a1_1 bt230.1 bt230.2.1 bt230.2.2) else (spec_DeskDo.j0 k false a0_0 a0_1 l0_2 a1_0 a1_1 bt230.1 bt230.2.1 bt230.2.2))) = some (r1, r2, r3, r4) := by rw [if_pos rfl] at H; exact H
  clear H
  have H := H1
  clear H1
  replace H := Option.bind_eq_some_iff.mp H
  obtain ⟨⟨t230, t231, t232⟩, A50, H⟩ := H
  replace H : (if (a1_0 == 4 && (a1_1.toList == ([] : List UInt8))) = true then (spec_DeskDo.j0 k (decide ((l0_2.length : Int) > 0)) a0_0 a0_1 l0_2 a1_0 a1_1 t230 t231 t232) else (spec_DeskDo.j0 k false a0_0 a0_1 l0_2 a1_0 a1_1 t230 t231 t232)) = some (r1, r2, r3, r4) := H
  have A5 := Aside0.mk A50
  clear A50
  have HC6 := Aside0.mk H
  clear H
  go_enter Tryz.func14, Tryz.ntmps14
  go_upto_region 4 with (first | ((with_reducible refine gate_dst (N := 2) rfl ?_); (try (refine gate_guard (by rfl) ?_; dsimp only)); refine sqBox (N := 2) (cs := #[.int .i64 a0_0, .int .i64 a0_1, .slice A0_2 l0_2.length c0_2]) (t := 34) ?_; intro gb226 hg w7 BK226 hb; have GW226 := Aside0.mk ((sqG hg (sqB HB))); have GE226 := GW226; replace HB := sqS (sqB HB) hb; clear hb hg) | ((with_reducible refine gate_dst (N := 3) rfl ?_); (try (refine gate_guard (by rfl) ?_; dsimp only)); refine sqBox (N := 3) (cs := #[.int .i64 a1_0, .string a1_1]) (t := 38) ?_; intro gb227 hg w8 BK227 hb; have GW227 := Aside0.mk ((sqG hg (sqB1 HB GE226))); have GE227 := GW227; replace HB := sqS (sqB1 HB GE226) hb; obtain ⟨NB226_227, NB227_226⟩ := sqM hg BK226; replace BK226 := sqT BK226 hb; clear hb hg) | ((with_reducible refine gate_dst (N := 4) rfl ?_); (try (refine gate_guard (by rfl) ?_; dsimp only)); refine sqBox (N := 4) (cs := #[.int .i64 0, .int .i64 0, .slice none 0 0]) (t := 34) ?_; intro gb228 hg w9 BK228 hb; have GW228 := Aside0.mk ((sqG hg (sqB2 HB GE226 GE227))); have GE228 := GW228; replace HB := sqS (sqB2 HB GE226 GE227) hb; obtain ⟨NB226_228, NB228_226⟩ := sqM hg BK226; replace BK226 := sqT BK226 hb; obtain ⟨NB227_228, NB228_227⟩ := sqM hg BK227; replace BK227 := sqT BK227 hb; clear hb hg; have hnb10 := NB226_227.out; have hnc10 := NB227_226.out; have hnb11 := NB226_228.out; have hnc11 := NB228_226.out; obtain ⟨hcz12_0, hcz12_1, hcz12_2, hfz12_0, hfz12_1, hfz12_2⟩ := sqY3 BK226) | ((with_reducible refine gate_callee (f := 30) rfl ?_); refine goesL_ (some 11) rfl rfl Tryz.func30 (by kernel_rfl) rfl #[.agg #[.int .i64 a0_0, .int .i64 a0_1, .slice A0_2 l0_2.length c0_2]] rfl sqA ?_; (with_reducible refine (spec_DeskOk.calls k a0_0 a0_1 _ _ l0_2 true _ ?side1 ?side2 A3.out).mono ?_); (case side1 => exact Z5); (case side2 => exact Z6); rintro e w13 ⟨rfl, hb⟩; refine ⟨_, rfl, ?_⟩; replace BK226 := sqT BK226 hb; replace BK227 := sqT BK227 hb; replace BK228 := sqT BK228 hb; replace HB := sqS (sqB3 HB GE226 GE227 GE228) hb; (try clear hb); obtain ⟨hcz14_0, hcz14_1, hcz14_2, hfz14_0, hfz14_1, hfz14_2⟩ := sqY3 BK226) | ((with_reducible refine gate_callee (f := 56) rfl ?_); refine goesL_ (some 15) rfl rfl Tryz.func56 (by kernel_rfl) rfl #[.agg #[.int .i64 a0_0, .int .i64 a0_1, .slice A0_2 l0_2.length c0_2]] rfl sqA ?_; (with_reducible refine (spec_l11Copy.calls a0_0 a0_1 _ _ l0_2 t230 t231 t232 _ ?side1 ?side2 A5.out).mono ?_); (case side1 => exact Z5); (case side2 => exact Z6); rintro e w15 ⟨v233, rfl, ho0, hb⟩; refine ⟨_, rfl, ?_⟩; have HO234 := sqL ho0 (sqB3 HB GE226 GE227 GE228); replace BK226 := sqT BK226 hb; replace BK227 := sqT BK227 hb; replace BK228 := sqT BK228 hb; replace HB := sqS (sqB3 HB GE226 GE227 GE228) hb; (try clear hb); (try clear ho0)) | ((with_reducible refine gate_dst (N := 6) rfl ?_); (try (refine gate_guard (by rfl) ?_; dsimp only)); refine sqBox (N := 6) (cs := #[.int .i64 0, .int .i64 0, .slice none 0 0]) (t := 34) ?_; intro gb235 hg w16 BK235 hb; replace HO234 := sqU HO234 hb; have GW235 := Aside0.mk ((sqG hg (sqB3 HB GE226 GE227 GE228))); have GE235 := GW235; replace HB := sqS (sqB3 HB GE226 GE227 GE228) hb; obtain ⟨NB226_235, NB235_226⟩ := sqM hg BK226; replace BK226 := sqT BK226 hb; obtain ⟨NB227_235, NB235_227⟩ := sqM hg BK227; replace BK227 := sqT BK227 hb; obtain ⟨NB228_235, NB235_228⟩ := sqM hg BK228; replace BK228 := sqT BK228 hb; clear hb hg; have hnb17 := NB235_226.out; have hnc17 := NB226_235.out; have hnb18 := NB235_227.out; have hnc18 := NB227_235.out; have hnb19 := NB235_228.out; have hnc19 := NB228_235.out; obtain ⟨hcz20_0, hcz20_1, hcz20_2, hfz20_0, hfz20_1, hfz20_2⟩ := sqY3 BK235; obtain ⟨Ao21, co21, eo21⟩ := Kd.R_slice HO234.out; subst eo21))
  (try simp only [Act.put, List.setIfInBounds_toArray, List.set_cons_zero, List.set_cons_succ])
  go_cut [24] (fun v24 wc => ∃ (kq : Nat) (x24_5 : Bool), v24 = .bool x24_5 ∧ Aside0 (spec_DeskDo.j0 kq x24_5 a0_0 a0_1 l0_2 a1_0 a1_1 t230 t231 t232 = some (r1, r2, r3, r4)) ∧ Aside0 (kq ≤ k) ∧ Aside0 (Kd.Q k31 31 wc w.heap.size (fun _ => True) (.slice Ao21 t232.length co21) t232) ∧ Aside0 (wc.heap[gb226]? = some (.cells #[.int .i64 a0_0, .int .i64 a0_1, (.slice A0_2 l0_2.length c0_2)] 34 (0, 0))) ∧ Aside0 (wc.heap[gb227]? = some (.cells #[.int .i64 a1_0, .string a1_1] 38 (0, 0))) ∧ Aside0 (wc.heap[gb228]? = some (.cells #[.int .i64 0, .int .i64 0, (.slice none 0 0)] 34 (0, 0))) ∧ Aside0 (wc.heap[gb235]? = some (.cells #[.int .i64 t230, .int .i64 t231, (.slice Ao21 t232.length co21)] 34 (0, 0))) ∧ Aside0 (Below w.heap.size w wc))
  case first =>
   have H := HC6.out
   clear HC6
   by_cases c22 : (a1_0 == 4 && (a1_1.toList == ([] : List UInt8))) = true
   ·rw [if_pos c22] at H
    have c22b0 : (a1_0 == 4 && (a1_1.toList == ([] : List UInt8))) = true := c22
    try have c22b8 : (a1_0 == 4 && a1_1.toList.isEmpty) = true := by (have h_ := c22b0; (repeat rw [show ∀ z : List UInt8, (z == ([] : List UInt8)) = z.isEmpty from fun z => by cases z <;> rfl] at h_); exact h_)
    (try (have c22b1 : decide (a1_0 = 4 && (a1_1.toList == ([] : List UInt8))) = true := by simpa using c22))
    (try (have c22b2 : (a1_0 == 4 && (a1_1.toList == ([] : List UInt8))) = true := by simpa using c22))
    clear c22
    (first | rw [c22b0] | (simp only [i64_w, i32_w]; rw [c22b0]) | skip)
    have H' := Aside0.mk H
    clear H
    have hnb23 := NB227_226.out
    have hnc23 := NB226_227.out
    have hnb24 := NB227_228.out
    have hnc24 := NB228_227.out
    have hnb25 := NB227_235.out
    have hnc25 := NB235_227.out
    obtain ⟨hcz26_0, hcz26_1, hfz26_0, hfz26_1⟩ := sqY2 BK227
    have hnb27 := NB226_228.out
    have hnc27 := NB228_226.out
    have hnb28 := NB226_235.out
    have hnc28 := NB235_226.out
    obtain ⟨hcz29_0, hcz29_1, hcz29_2, hfz29_0, hfz29_1, hfz29_2⟩ := sqY3 BK226
    go_wp2
    go_meet
    case rel => exact ⟨_, (decide ((l0_2.length : Int) > 0)), Z1, H', ⟨Z15⟩, ⟨Kd.Q_of_R (Z52 HO234 BK235)⟩, ⟨Z19 NB226_235 BK226⟩, ⟨Z19 NB227_235 BK227⟩, ⟨Z19 NB228_235 BK228⟩, ⟨Z53 BK235⟩, ⟨sqB4 HB GE226 GE227 GE228 GE235⟩⟩
   ·rw [if_neg c22] at H
    have c22b0 : (a1_0 == 4 && (a1_1.toList == ([] : List UInt8))) = false := by simpa using c22
    try have c22b8 : (a1_0 == 4 && a1_1.toList.isEmpty) = false := by (have h_ := c22b0; (repeat rw [show ∀ z : List UInt8, (z == ([] : List UInt8)) = z.isEmpty from fun z => by cases z <;> rfl] at h_); exact h_)
    (try (have c22b1 : decide (a1_0 = 4 && (a1_1.toList == ([] : List UInt8))) = false := by simpa using c22))
    (try (have c22b2 : (a1_0 == 4 && (a1_1.toList == ([] : List UInt8))) = false := by simpa using c22))
    (try (have c22b3 : ¬ (a1_0 = 4 && (a1_1.toList == ([] : List UInt8))) := by simpa using c22))
    clear c22
    (first | rw [c22b0] | (simp only [i64_w, i32_w]; rw [c22b0]) | skip)
    have H' := Aside0.mk H
    clear H
    have hnb30 := NB227_226.out
    have hnc30 := NB226_227.out
    have hnb31 := NB227_228.out
    have hnc31 := NB228_227.out
    have hnb32 := NB227_235.out
    have hnc32 := NB235_227.out
    obtain ⟨hcz33_0, hcz33_1, hfz33_0, hfz33_1⟩ := sqY2 BK227
    go_wp2
    go_meet
    case rel => exact ⟨_, (false), Z1, H', ⟨Z15⟩, ⟨Kd.Q_of_R (Z52 HO234 BK235)⟩, ⟨Z19 NB226_235 BK226⟩, ⟨Z19 NB227_235 BK227⟩, ⟨Z19 NB228_235 BK228⟩, ⟨Z53 BK235⟩, ⟨sqB4 HB GE226 GE227 GE228 GE235⟩⟩
  case rest =>
   clear HC6
   try clear c1; try clear c2; try clear p2; try clear c3; try clear c4; try clear c5; try clear c10; try clear c11; try clear c14; try clear c17; try clear c18; try clear c19; try clear c22; try clear c22b0; try clear c22b1; try clear c22b2; try clear c23; try clear c24; try clear c25; try clear c27; try clear c28; try clear c30; try clear c31; try clear c32; try clear hcz12_0; try clear hcz12_1; try clear hcz12_2; try clear hcz14_0; try clear hcz14_1; try clear hcz14_2; try clear hcz20_0; try clear hcz20_1; try clear hcz20_2; try clear hcz26_0; try clear hcz26_1; try clear hcz29_0; try clear hcz29_1; try clear hcz29_2; try clear hcz33_0; try clear hcz33_1; try clear hfz12_0; try clear hfz12_1; try clear hfz12_2; try clear hfz14_0; try clear hfz14_1; try clear hfz14_2; try clear hfz20_0; try clear hfz20_1; try clear hfz20_2; try clear hfz26_0; try clear hfz26_1; try clear hfz29_0; try clear hfz29_1; try clear hfz29_2; try clear hfz33_0; try clear hfz33_1
   obtain ⟨kq, x24_5, rfl, HA, HJ5, HO_236002, BK226, BK227, BK228, BK235, HB⟩ := hcut
   cases kq with
   | zero => exact absurd HA.out (by simp [spec_DeskDo.j0])
   | succ kj5 =>
    have H := HA.out
    clear HA
    simp only [spec_DeskDo.j0] at H
    by_cases c34 : x24_5 = true
    ·subst c34
     have H1 : (if 0 ≤ (wrap64 ((t232.length : Int) - 1)) then (if (wrap64 ((t232.length : Int) - 1)) < (t232.length : Int) then (if (wrap64 ((t232.length : Int) - 1)) ≤ (t232.length : Int) then (some ((rd_T31 t232 (wrap64 ((t232.length : Int) - 1))).f0, (rd_T31 t232 (wrap64 ((t232.length : Int) - 1))).f1, (t232.take ((wrap64 ((t232.length : Int) - 1)) : Int).toNat), true)) else (none)) else (none)) else (none)) = some (r1, r2, r3, r4) := by rw [if_pos rfl] at H; exact H
     clear H
     have H := H1
     clear H1
     obtain ⟨ji35, hji35⟩ : ∃ j_ : Int, (wrap64 ((t232.length : Int) - 1)) = j_ := ⟨_, rfl⟩
     replace H : (if 0 ≤ (ji35) then (if (ji35) < (t232.length : Int) then (if (ji35) ≤ (t232.length : Int) then (some ((rd_T31 t232 (ji35)).f0, (rd_T31 t232 (ji35)).f1, (t232.take ((ji35) : Int).toNat), true)) else (none)) else (none)) else (none)) = some (r1, r2, r3, r4) := by first | (rw [hji35] at H; exact H) | (simp only [hji35] at H ⊢; exact H)
     have hji35w : (IntKind.i64.wrap ((t232.length : Int) - 1)) = ji35 := (i64_w _).trans hji35
     by_cases c36 : 0 ≤ (ji35)
     ·rw [if_pos c36] at H
      have c36b0 : decide (0 ≤ (ji35)) = true := decide_eq_true c36
      clear c36
      by_cases c37 : (ji35) < (t232.length : Int)
      ·rw [if_pos c37] at H
       have c37b0 : decide ((ji35) < (t232.length : Int)) = true := decide_eq_true c37
       clear c37
       by_cases c38 : (ji35) ≤ (t232.length : Int)
       ·rw [if_pos c38] at H
        have c38b0 := eq_true c38
        have c38b1 : decide ((ji35) ≤ (t232.length : Int)) = true := decide_eq_true c38
        clear c38
        obtain ⟨y237, hy237⟩ : ∃ y_ : List (S31), y_ = (t232.take ((ji35) : Int).toNat) := ⟨_, rfl⟩
        replace H : (some ((rd_T31 t232 (ji35)).f0, (rd_T31 t232 (ji35)).f1, y237, true)) = some (r1, r2, r3, r4) := by first | (rw [hy237]; with_reducible exact H) | (have H2_ := (Option.bind_some _ _).symm.trans H; rw [hy237]; with_reducible exact H2_) | (have H2_ := (Option.bind_some _ _).symm.trans H; with_reducible exact H2_) | with_reducible exact H | (rw [hy237]; exact H) | exact H
        have Ny237 := Aside0.mk hy237
        clear hy237
        simp only [Option.some.injEq, Prod.mk.injEq] at H
        obtain ⟨rfl, rfl, rfl, rfl⟩ := H
        have hnb39 := NB235_226.out
        have hnc39 := NB226_235.out
        have hnb40 := NB235_227.out
        have hnc40 := NB227_235.out
        have hnb41 := NB235_228.out
        have hnc41 := NB228_235.out
        obtain ⟨hcz42_0, hcz42_1, hcz42_2, hfz42_0, hfz42_1, hfz42_2⟩ := sqY3 BK235
        have p236 : 0 ≤ ((ji35) : Int) := of_decide_eq_true Z4
        have q236 : (ji35) < (t232.length : Int) := of_decide_eq_true Z4
        obtain ⟨ad236, e236, hx236_0, hx236_1⟩ := at_T31 (Kd.Q_reads' HO_236002.out).2.2 (ji35) p236 q236
        cases e236
        replace p236 := eq_true p236
        replace q236 := eq_true q236
        go_wp2_with (first | ((with_reducible refine gate_store (t := 31) (p := 34) rfl ?_); refine store_event (t := 31) (p := 34) (v := ?vo_w43) (w1 := ((wc.setCell ⟨gb235, 0, none⟩ (.int .i64 ((rd_T31 t232 (ji35)).f0))).setCell ⟨gb235, 1, none⟩ (.int .i64 ((rd_T31 t232 (ji35)).f1)))) ?hg ?ho ?hn ?hr ?_; (case ho => rfl); (case hg => rfl); (case hn => rfl); (case hr => exact Z7); intro w43 hw; replace HO_236002 : Aside0 (Kd.Q k31 31 w43 w.heap.size (fun _ => True) (.slice (some ad236) t232.length co21) t232) := ⟨(by rw [hw]; exact (by (with_reducible repeat (first | apply Kd.Q_alloc | apply Kd.Q_drewN | apply Kd.Q_drew)); exact Kd.Q_mono (Kd.Q_far (p := ⟨gb235, 1, none⟩) (Kd.Q_far (p := ⟨gb235, 0, none⟩) (Kd.Q_types HO_236002.out BK235.out (by decide)) (fun _ hk => hk.2) (.int .i64 ((rd_T31 t232 (ji35)).f0))) (fun _ hk => hk.2) (.int .i64 ((rd_T31 t232 (ji35)).f1))) (fun _ hk => trivial)))⟩; replace BK226 : Aside0 (w43.heap[gb226]? = some (.cells #[.int .i64 a0_0, .int .i64 a0_1, .slice A0_2 l0_2.length c0_2] 34 (0, 0))) := ⟨(by rw [hw]; exact (Z13 NB226_235 BK226))⟩; replace BK227 : Aside0 (w43.heap[gb227]? = some (.cells #[.int .i64 a1_0, .string a1_1] 38 (0, 0))) := ⟨(by rw [hw]; exact (Z13 NB227_235 BK227))⟩; replace BK228 : Aside0 (w43.heap[gb228]? = some (.cells #[.int .i64 0, .int .i64 0, .slice none 0 0] 34 (0, 0))) := ⟨(by rw [hw]; exact (Z13 NB228_235 BK228))⟩; replace BK235 : Aside0 (w43.heap[gb235]? = some (.cells #[.int .i64 ((rd_T31 t232 (ji35)).f0), .int .i64 ((rd_T31 t232 (ji35)).f1), .slice (some ad236) t232.length co21] 34 (0, 0))) := ⟨(by rw [hw]; exact (by refine sqPut (cs := #[.int .i64 ((rd_T31 t232 (ji35)).f0), .int .i64 t231, .slice (some ad236) t232.length co21]) ?_ 1; refine sqPut (cs := #[.int .i64 t230, .int .i64 t231, .slice (some ad236) t232.length co21]) ?_ 0; exact sqK BK235))⟩; replace HB : Aside0 (Below w.heap.size w w43) := ⟨(by rw [hw]; exact (sqB4 HB GE226 GE227 GE228 GE235))⟩; clear hw; have hcz44_0 : w43.cell? ⟨gb235, 0, none⟩ = some (.int .i64 ((rd_T31 t232 (ji35)).f0)) := (blk_cell BK235.out 0).trans rfl; have hcz44_1 : w43.cell? ⟨gb235, 1, none⟩ = some (.int .i64 ((rd_T31 t232 (ji35)).f1)) := (blk_cell BK235.out 1).trans rfl; have hcz44_2 := sqZ BK235 2 (.slice (some ad236) t232.length co21); have hfz44_0 := blk_frozen BK235.out 0; have hfz44_1 := blk_frozen BK235.out 1; have hfz44_2 := blk_frozen BK235.out 2; have q45 : ((ji35) : Int) ≤ ((t232.length : Int) : Int) := of_decide_eq_true Z4; obtain ⟨i045, hi045, _, hsz45, _⟩ := info_parts info31; have hcut45 := cut_to (P := Tryz.prog) 32 31 .i64 Tryz.underlying32 hi045 (some ad236) t232.length co21 (ji35) (of_decide_eq_true Z4) q45 (Kd.Q_reads' HO_236002.out).2.1; have hr45 := Kd.Q_take (m := ((ji35) : Int).toNat) HO_236002.out (by omega); have hy45 : y237.length = ((ji35) : Int).toNat := (by rw [Ny237.out, List.length_take]; omega); rw [← Ny237.out] at hr45; rw [← hy45] at hr45 hcut45; clear hy45 hi045 hsz45 HO_236002; have HO239 := Aside0.mk hr45; clear hr45; replace q45 := eq_true q45; have hnb46 := NB228_226.out; have hnc46 := NB226_228.out; have hnb47 := NB228_227.out; have hnc47 := NB227_228.out; obtain ⟨hcz48_0, hcz48_1, hcz48_2, hfz48_0, hfz48_1, hfz48_2⟩ := sqY3 BK228))
        refine bodyPost_ret (results_ct rfl _ _ gb228 34 #[.int .i64 ((rd_T31 t232 (ji35)).f0), .int .i64 ((rd_T31 t232 (ji35)).f1), .slice (some ad236) y237.length co21] (0, 0) _ rfl (by refine sqPut (cs := #[.int .i64 ((rd_T31 t232 (ji35)).f0), .int .i64 ((rd_T31 t232 (ji35)).f1), .slice none 0 0]) ?_ 2; refine sqPut (cs := #[.int .i64 ((rd_T31 t232 (ji35)).f0), .int .i64 0, .slice none 0 0]) ?_ 1; refine sqPut (cs := #[.int .i64 0, .int .i64 0, .slice none 0 0]) ?_ 0; refine sqFar ?_ NB228_235; exact sqK BK228) Tryz.underlying34 rfl (by kernel_rfl)) rfl ?_
        exact ⟨_, by first | rfl | (simp [errP_none, errP_some] <;> rfl) | (simp only [← hji35]; first | rfl | (simp [errP_none, errP_some] <;> rfl)) | (simp [*, errP_none, errP_some] <;> rfl), (by (with_reducible repeat (first | apply Kd.Q_alloc | apply Kd.Q_drewN | apply Kd.Q_drew)); exact Kd.Q_mono (Kd.Q_far (p := ⟨gb228, 2, none⟩) (Kd.Q_far (p := ⟨gb228, 1, none⟩) (Kd.Q_far (p := ⟨gb228, 0, none⟩) (Kd.Q_far (p := ⟨gb235, 2, none⟩) (Kd.Q_types (Kd.Q_types HO239.out BK235.out (by decide)) BK228.out (by decide)) (fun _ hk => hk.1.2) (.slice (some ad236) y237.length co21)) (fun _ hk => hk.2) (.int .i64 ((rd_T31 t232 (ji35)).f0))) (fun _ hk => hk.2) (.int .i64 ((rd_T31 t232 (ji35)).f1))) (fun _ hk => hk.2) (.slice (some ad236) y237.length co21)) (fun _ hk => trivial)), sqB4 HB GE226 GE227 GE228 GE235⟩
       ·rw [if_neg c38] at H
        exact absurd H (by simp)
      ·rw [if_neg c37] at H
       exact absurd H (by simp)
     ·rw [if_neg c36] at H
      exact absurd H (by simp)
    ·replace c34 := Bool.eq_false_iff.mpr c34
     subst c34
     have H1 : ((spec_l11Made.f kj5 a0_0 a0_1 a1_0 a1_1).bind fun bt240 => (if bt240.2.2 = true then (spec_DeskDo.j1 kj5 (bt240.1 == a0_0 && (bt240.2.1 == a0_1)) t230 t231 t232 bt240.1 bt240.2.1) else (spec_DeskDo.j1 kj5 true t230 t231 t232 bt240.1 bt240.2.1))) = some (r1, r2, r3, r4) := by rw [if_neg (show ¬ (false = true) by decide)] at H; exact H
     clear H
     have H := H1
     clear H1
     replace H := Option.bind_eq_some_iff.mp H
     obtain ⟨⟨t240, t241, t242⟩, A490, H⟩ := H
     replace H : (if t242 = true then (spec_DeskDo.j1 kj5 (t240 == a0_0 && (t241 == a0_1)) t230 t231 t232 t240 t241) else (spec_DeskDo.j1 kj5 true t230 t231 t232 t240 t241)) = some (r1, r2, r3, r4) := H
     have A49 := Aside0.mk A490
     clear A490
     have HC50 := Aside0.mk H
     clear H
     have hnb51 := NB226_227.out
     have hnc51 := NB227_226.out
     have hnb52 := NB226_228.out
     have hnc52 := NB228_226.out
     have hnb53 := NB226_235.out
     have hnc53 := NB235_226.out
     obtain ⟨hcz54_0, hcz54_1, hcz54_2, hfz54_0, hfz54_1, hfz54_2⟩ := sqY3 BK226
     have hnb55 := NB227_228.out
     have hnc55 := NB228_227.out
     have hnb56 := NB227_235.out
     have hnc56 := NB235_227.out
     obtain ⟨hcz57_0, hcz57_1, hfz57_0, hfz57_1⟩ := sqY2 BK227
     go_upto_region 10 with (first | ((with_reducible refine gate_callee (f := 57) rfl ?_); refine goesL_ (some 45) rfl rfl Tryz.func57 (by kernel_rfl) rfl #[.agg #[.int .i64 a0_0, .int .i64 a0_1], .agg #[.int .i64 a1_0, .string a1_1]] rfl sqA ?_; (with_reducible refine (spec_l11Made.calls kj5 a0_0 a0_1 a1_0 a1_1 t240 t241 t242 _ A49.out).mono ?_); rintro e w58 ⟨rfl, hb⟩; refine ⟨_, rfl, ?_⟩; replace HO_236002 := Aside0.mk (Kd.Q_below (Z27 HO_236002) hb); replace BK226 := sqT BK226 hb; replace BK227 := sqT BK227 hb; replace BK228 := sqT BK228 hb; replace BK235 := sqT BK235 hb; replace HB := sqS (sqB4 HB GE226 GE227 GE228 GE235) hb; (try clear hb)) | ((with_reducible refine gate_dst (N := 8) rfl ?_); (try (refine gate_guard (by rfl) ?_; dsimp only)); refine sqBox (N := 8) (cs := #[.int .i64 0, .int .i64 0]) (t := 31) ?_; intro gb243 hg w59 BK243 hb; replace HO_236002 := Aside0.mk (Kd.Q_below (Kd.Q_elderB (Z27 HO_236002) gb243 (Nat.le_of_eq hg.symm)) hb); have GW243 := Aside0.mk ((sqG hg (sqB4 HB GE226 GE227 GE228 GE235))); have GE243 := GW243; replace HB := sqS (sqB4 HB GE226 GE227 GE228 GE235) hb; obtain ⟨NB226_243, NB243_226⟩ := sqM hg BK226; replace BK226 := sqT BK226 hb; obtain ⟨NB227_243, NB243_227⟩ := sqM hg BK227; replace BK227 := sqT BK227 hb; obtain ⟨NB228_243, NB243_228⟩ := sqM hg BK228; replace BK228 := sqT BK228 hb; obtain ⟨NB235_243, NB243_235⟩ := sqM hg BK235; replace BK235 := sqT BK235 hb; clear hb hg; have hnb60 := NB243_226.out; have hnc60 := NB226_243.out; have hnb61 := NB243_227.out; have hnc61 := NB227_243.out; have hnb62 := NB243_228.out; have hnc62 := NB228_243.out; have hnb63 := NB243_235.out; have hnc63 := NB235_243.out; obtain ⟨hcz64_0, hcz64_1, hfz64_0, hfz64_1⟩ := sqY2 BK243))
     (try simp only [Act.put, List.setIfInBounds_toArray, List.set_cons_zero, List.set_cons_succ])
     go_cut [55] (fun v55 wc => ∃ (kq : Nat) (x55_49 : Bool), v55 = .bool x55_49 ∧ Aside0 (spec_DeskDo.j1 kq x55_49 t230 t231 t232 t240 t241 = some (r1, r2, r3, r4)) ∧ Aside0 (kq ≤ kj5) ∧ Aside0 (Kd.Q k31 31 wc w.heap.size (fun k_ => k_ ≠ gb243) (.slice Ao21 t232.length co21) t232) ∧ Aside0 (wc.heap[gb226]? = some (.cells #[.int .i64 a0_0, .int .i64 a0_1, (.slice A0_2 l0_2.length c0_2)] 34 (0, 0))) ∧ Aside0 (wc.heap[gb227]? = some (.cells #[.int .i64 a1_0, .string a1_1] 38 (0, 0))) ∧ Aside0 (wc.heap[gb228]? = some (.cells #[.int .i64 0, .int .i64 0, (.slice none 0 0)] 34 (0, 0))) ∧ Aside0 (wc.heap[gb235]? = some (.cells #[.int .i64 t230, .int .i64 t231, (.slice Ao21 t232.length co21)] 34 (0, 0))) ∧ Aside0 (wc.heap[gb243]? = some (.cells #[.int .i64 t240, .int .i64 t241] 31 (0, 0))) ∧ Aside0 (Below w.heap.size w wc))
     case first =>
      have H := HC50.out
      clear HC50
      by_cases c65 : t242 = true
      ·subst c65
       have H1 : (spec_DeskDo.j1 kj5 (t240 == a0_0 && (t241 == a0_1)) t230 t231 t232 t240 t241) = some (r1, r2, r3, r4) := by rw [if_pos rfl] at H; exact H
       clear H
       have H := H1
       clear H1
       have H' := Aside0.mk H
       clear H
       have hnb66 := NB243_226.out
       have hnc66 := NB226_243.out
       have hnb67 := NB243_227.out
       have hnc67 := NB227_243.out
       have hnb68 := NB243_228.out
       have hnc68 := NB228_243.out
       have hnb69 := NB243_235.out
       have hnc69 := NB235_243.out
       obtain ⟨hcz70_0, hcz70_1, hfz70_0, hfz70_1⟩ := sqY2 BK243
       have hnb71 := NB226_227.out
       have hnc71 := NB227_226.out
       have hnb72 := NB226_228.out
       have hnc72 := NB228_226.out
       have hnb73 := NB226_235.out
       have hnc73 := NB235_226.out
       obtain ⟨hcz74_0, hcz74_1, hcz74_2, hfz74_0, hfz74_1, hfz74_2⟩ := sqY3 BK226
       go_wp2
       go_meet
       case rel => exact ⟨_, ((t240 == a0_0 && (t241 == a0_1))), Z1, H', ⟨by have := HJ5.out; first | omega | exact Nat.le_refl _⟩, ⟨Z54 HO_236002⟩, ⟨Z13 NB226_243 BK226⟩, ⟨Z13 NB227_243 BK227⟩, ⟨Z13 NB228_243 BK228⟩, ⟨Z13 NB235_243 BK235⟩, ⟨Z55 BK243⟩, ⟨Z25 GE226 GE227 GE228 GE235 GE243⟩⟩
      ·replace c65 := Bool.eq_false_iff.mpr c65
       subst c65
       have H1 : (spec_DeskDo.j1 kj5 true t230 t231 t232 t240 t241) = some (r1, r2, r3, r4) := by rw [if_neg (show ¬ (false = true) by decide)] at H; exact H
       clear H
       have H := H1
       clear H1
       have H' := Aside0.mk H
       clear H
       go_wp2
       go_meet
       case rel => exact ⟨_, (true), Z1, H', ⟨by have := HJ5.out; first | omega | exact Nat.le_refl _⟩, ⟨Z54 HO_236002⟩, ⟨Z13 NB226_243 BK226⟩, ⟨Z13 NB227_243 BK227⟩, ⟨Z13 NB228_243 BK228⟩, ⟨Z13 NB235_243 BK235⟩, ⟨Z55 BK243⟩, ⟨Z25 GE226 GE227 GE228 GE235 GE243⟩⟩
     case rest =>
      clear HC50
      try clear c1; try clear c2; try clear p2; try clear q2; try clear hx2; try clear c3; try clear c4; try clear q4; try clear c5; try clear c6; try clear p6; try clear c7; try clear c10; try clear c11; try clear c14; try clear c17; try clear c18; try clear c19; try clear c22; try clear c22b0; try clear c22b1; try clear c22b2; try clear c23; try clear p23; try clear q23; try clear hx23; try clear c24; try clear c25; try clear c27; try clear c28; try clear c30; try clear c31; try clear c32; try clear c34; try clear c36; try clear c36b0; try clear c37; try clear c37b0; try clear c38; try clear c38b0; try clear c38b1; try clear c39; try clear c40; try clear c41; try clear q45; try clear c46; try clear c47; try clear c51; try clear c52; try clear c53; try clear c55; try clear c56; try clear c57; try clear c60; try clear c61; try clear c62; try clear c63; try clear p64; try clear c65; try clear c66; try clear c67; try clear c68; try clear c69; try clear c71; try clear c72; try clear c73; try clear hcz12_0; try clear hcz12_1; try clear hcz12_2; try clear hcz14_0; try clear hcz14_1; try clear hcz14_2; try clear hcz20_0; try clear hcz20_1; try clear hcz20_2; try clear hcz26_0; try clear hcz26_1; try clear hcz29_0; try clear hcz29_1; try clear hcz29_2; try clear hcz33_0; try clear hcz33_1; try clear hcz42_0; try clear hcz42_1; try clear hcz42_2; try clear hcz44_0; try clear hcz44_1; try clear hcz44_2; try clear hcz48_0; try clear hcz48_1; try clear hcz48_2; try clear hcz54_0; try clear hcz54_1; try clear hcz54_2; try clear hcz57_0; try clear hcz57_1; try clear hcz64_0; try clear hcz64_1; try clear hcz70_0; try clear hcz70_1; try clear hcz74_0; try clear hcz74_1; try clear hcz74_2; try clear hfz12_0; try clear hfz12_1; try clear hfz12_2; try clear hfz14_0; try clear hfz14_1; try clear hfz14_2; try clear hfz20_0; try clear hfz20_1; try clear hfz20_2; try clear hfz26_0; try clear hfz26_1; try clear hfz29_0; try clear hfz29_1; try clear hfz29_2; try clear hfz33_0; try clear hfz33_1; try clear hfz42_0; try clear hfz42_1; try clear hfz42_2; try clear hfz44_0; try clear hfz44_1; try clear hfz44_2; try clear hfz48_0; try clear hfz48_1; try clear hfz48_2; try clear hfz54_0; try clear hfz54_1; try clear hfz54_2; try clear hfz57_0; try clear hfz57_1; try clear hfz64_0; try clear hfz64_1; try clear hfz70_0; try clear hfz70_1; try clear hfz74_0; try clear hfz74_1; try clear hfz74_2; try clear hx236_0; try clear hx236_1; try clear p2; try clear p236; try clear q236; try clear q45
      obtain ⟨kq, x55_49, rfl, HA, HJ49, HO_236002, BK226, BK227, BK228, BK235, BK243, HB⟩ := hcut
      cases kq with
      | zero => exact absurd HA.out (by simp [spec_DeskDo.j1])
      | succ kj49 =>
       have H := HA.out
       clear HA
       simp only [spec_DeskDo.j1] at H
       by_cases c75 : x55_49 = true
       ·subst c75
        have H1 : (some (t230, t231, t232, false)) = some (r1, r2, r3, r4) := by rw [if_pos rfl] at H; exact H
        clear H
        have H := H1
        clear H1
        simp only [Option.some.injEq, Prod.mk.injEq] at H
        obtain ⟨rfl, rfl, rfl, rfl⟩ := H
        have hnb76 := NB235_226.out
        have hnc76 := NB226_235.out
        have hnb77 := NB235_227.out
        have hnc77 := NB227_235.out
        have hnb78 := NB235_228.out
        have hnc78 := NB228_235.out
        have hnb79 := NB235_243.out
        have hnc79 := NB243_235.out
        obtain ⟨hcz80_0, hcz80_1, hcz80_2, hfz80_0, hfz80_1, hfz80_2⟩ := sqY3 BK235
        have hnb81 := NB228_226.out
        have hnc81 := NB226_228.out
        have hnb82 := NB228_227.out
        have hnc82 := NB227_228.out
        have hnb83 := NB228_243.out
        have hnc83 := NB243_228.out
        obtain ⟨hcz84_0, hcz84_1, hcz84_2, hfz84_0, hfz84_1, hfz84_2⟩ := sqY3 BK228
        go_wp2
        refine bodyPost_ret (results_ct rfl _ _ gb228 34 #[.int .i64 t230, .int .i64 t231, .slice Ao21 t232.length co21] (0, 0) _ rfl (Z53 BK228) Tryz.underlying34 rfl (by kernel_rfl)) rfl ?_
        exact ⟨_, Z3, by (with_reducible repeat (first | apply Kd.Q_alloc | apply Kd.Q_drewN | apply Kd.Q_drew)); exact Kd.Q_mono (Kd.Q_far (p := ⟨gb228, 2, none⟩) (Kd.Q_far (p := ⟨gb228, 1, none⟩) (Kd.Q_far (p := ⟨gb228, 0, none⟩) (Kd.Q_types HO_236002.out BK228.out (by decide)) (fun _ hk => hk.2) (.int .i64 t230)) (fun _ hk => hk.2) (.int .i64 t231)) (fun _ hk => hk.2) (.slice Ao21 t232.length co21)) (fun _ hk => trivial), Z25 GE226 GE227 GE228 GE235 GE243⟩
       ·replace c75 := Bool.eq_false_iff.mpr c75
        subst c75
        have H1 : (if t232.length < 8796093022208 then ((some (t232 ++ [(⟨t230, t231⟩ : S31)] : List (S31))).bind fun y244 => (if (y244.length : Int) > 8 then (if 1 ≤ (y244.length : Int) then (some (t240, t241, (y244.drop (1 : Int).toNat), true)) else (none)) else (some (t240, t241, y244, true)))) else (none)) = some (r1, r2, r3, r4) := by rw [if_neg (show ¬ (false = true) by decide)] at H; exact H
        clear H
        have H := H1
        clear H1
        by_cases c85 : t232.length < 8796093022208
        ·rw [if_pos c85] at H
         have LMc85 := Aside0.mk c85
         clear c85
         obtain ⟨y244, hy244⟩ : ∃ y_ : List (S31), y_ = (t232 ++ [(⟨t230, t231⟩ : S31)]) := ⟨_, rfl⟩
         replace H : (if (y244.length : Int) > 8 then (if 1 ≤ (y244.length : Int) then (some (t240, t241, (y244.drop (1 : Int).toNat), true)) else (none)) else (some (t240, t241, y244, true))) = some (r1, r2, r3, r4) := by first | (rw [hy244]; with_reducible exact H) | (have H2_ := (Option.bind_some _ _).symm.trans H; rw [hy244]; with_reducible exact H2_) | (have H2_ := (Option.bind_some _ _).symm.trans H; with_reducible exact H2_) | with_reducible exact H | (rw [hy244]; exact H) | exact H
         have Ny244 := Aside0.mk hy244
         clear hy244
         by_cases c86 : (y244.length : Int) > 8
         ·rw [if_pos c86] at H
          have c86b0 : decide (8 < (y244.length : Int)) = true := decide_eq_true c86
          have c86b1 : decide (8 < y244.length) = true := decide_eq_true (by omega)
          clear c86
          by_cases c87 : 1 ≤ (y244.length : Int)
          ·rw [if_pos c87] at H
           have c87b0 := eq_true c87
           have c87b1 : decide (1 ≤ (y244.length : Int)) = true := decide_eq_true c87
           clear c87
           obtain ⟨y247, hy247⟩ : ∃ y_ : List (S31), y_ = (y244.drop (1 : Int).toNat) := ⟨_, rfl⟩
           replace H : (some (t240, t241, y247, true)) = some (r1, r2, r3, r4) := by first | (rw [hy247]; with_reducible exact H) | (have H2_ := (Option.bind_some _ _).symm.trans H; rw [hy247]; with_reducible exact H2_) | (have H2_ := (Option.bind_some _ _).symm.trans H; with_reducible exact H2_) | with_reducible exact H | (rw [hy247]; exact H) | exact H
           have Ny247 := Aside0.mk hy247
           clear hy247
           simp only [Option.some.injEq, Prod.mk.injEq] at H
           obtain ⟨rfl, rfl, rfl, rfl⟩ := H
           have hnb88 := NB235_226.out
           have hnc88 := NB226_235.out
           have hnb89 := NB235_227.out
           have hnc89 := NB227_235.out
           have hnb90 := NB235_228.out
           have hnc90 := NB228_235.out
           have hnb91 := NB235_243.out
           have hnc91 := NB243_235.out
           obtain ⟨hcz92_0, hcz92_1, hcz92_2, hfz92_0, hfz92_1, hfz92_2⟩ := sqY3 BK235
           go_wp2_with (first | ((with_reducible refine gate_builtin (b := .append) (xs := #[.tmp 58, .tmp 61]) rfl ?_); (try (refine gate_guard (by rfl) ?_; dsimp only)); at_builtin; refine Kd.Q_append k31 (w0 := w) w.heap.size rfl (.tmp 58) (.tmp 61) 32 31 (.agg #[(.int .i64 0), (.int .i64 0)]) 16 rfl Tryz.underlying32 info31 rfl (by decide) (by omega) (.slice Ao21 t232.length co21) t232 (⟨t230, t231⟩ : S31) [.int .i64 t230, .int .i64 t231] (fun k_ => k_ ≠ gb243) (fun _ => False) rfl rfl ?aP (fun _ hk => hk.elim) ?aF ?aO ?aB ?aS ?aL ?_; (case aP => exact k31_mkM _ _ _ (⟨t230, t231⟩ : S31)); (case aB => exact (Z25 GE226 GE227 GE228 GE235 GE243)); (case aF => exact (fun k_ hk => Kd.freshB (sqK BK243) k_ hk)); (case aO => exact (Z27 HO_236002)); (case aS => exact (below_size (Z25 GE226 GE227 GE228 GE235 GE243))); (case aL => exact Z2 LMc85); intro v245 w93 ho hb hg hat; rw [← Ny244.out] at ho; replace BK226 := Aside0.mk (blk_grown (sqK BK226) hg (Kd.Q_ne HO_236002.out BK226.out (by decide))); replace BK227 := Aside0.mk (blk_grown (sqK BK227) hg (Kd.Q_ne HO_236002.out BK227.out (by decide))); replace BK228 := Aside0.mk (blk_grown (sqK BK228) hg (Kd.Q_ne HO_236002.out BK228.out (by decide))); replace BK235 := Aside0.mk (blk_grown (sqK BK235) hg (Kd.Q_ne HO_236002.out BK235.out (by decide))); replace BK243 := Aside0.mk (blk_grown (sqK BK243) hg (Kd.Q_away HO_236002.out (fun _ hk => hk))); replace HB := Aside0.mk (hb); have HO246 := Aside0.mk (ho); clear HO_236002; clear ho hb hg hat; obtain ⟨Ao94, co94, eo94, _⟩ := Kd.Q_slice HO246.out; subst eo94; obtain ⟨hcz95_0, hcz95_1, hcz95_2, hfz95_0, hfz95_1, hfz95_2⟩ := sqY3 BK235) | ((with_reducible refine gate_store (t := 32) (p := 63) rfl ?_); refine store_event (t := 32) (p := 63) (v := ?vo_w96) (w1 := (w93.setCell ⟨gb235, 2, none⟩ (.slice Ao94 y244.length co94))) ?hg ?ho ?hn ?hr ?_; (case ho => rfl); (case hg => rfl); (case hn => rfl); (case hr => exact Z7); intro w96 hw; replace HO246 : Aside0 (Kd.Q k31 31 w96 w.heap.size (fun k_ => k_ ≠ gb243) (.slice Ao94 y244.length co94) y244) := ⟨(by rw [hw]; exact (by (with_reducible repeat (first | apply Kd.Q_alloc | apply Kd.Q_drewN | apply Kd.Q_drew)); exact Kd.Q_mono (Kd.Q_far (p := ⟨gb235, 2, none⟩) (Kd.Q_types HO246.out BK235.out (by decide)) (fun _ hk => hk.2) (.slice Ao94 y244.length co94)) (fun _ hk => hk.1)))⟩; replace BK226 : Aside0 (w96.heap[gb226]? = some (.cells #[.int .i64 a0_0, .int .i64 a0_1, .slice A0_2 l0_2.length c0_2] 34 (0, 0))) := ⟨(by rw [hw]; exact (by refine sqFar ?_ NB226_235; exact sqK BK226))⟩; replace BK227 : Aside0 (w96.heap[gb227]? = some (.cells #[.int .i64 a1_0, .string a1_1] 38 (0, 0))) := ⟨(by rw [hw]; exact (by refine sqFar ?_ NB227_235; exact sqK BK227))⟩; replace BK228 : Aside0 (w96.heap[gb228]? = some (.cells #[.int .i64 0, .int .i64 0, .slice none 0 0] 34 (0, 0))) := ⟨(by rw [hw]; exact (by refine sqFar ?_ NB228_235; exact sqK BK228))⟩; replace BK235 : Aside0 (w96.heap[gb235]? = some (.cells #[.int .i64 t230, .int .i64 t231, .slice Ao94 y244.length co94] 34 (0, 0))) := ⟨(by rw [hw]; exact (by refine sqPut (cs := #[.int .i64 t230, .int .i64 t231, .slice Ao21 t232.length co21]) ?_ 2; exact sqK BK235))⟩; replace BK243 : Aside0 (w96.heap[gb243]? = some (.cells #[.int .i64 t240, .int .i64 t241] 31 (0, 0))) := ⟨(by rw [hw]; exact (by refine sqFar ?_ NB243_235; exact sqK BK243))⟩; replace HB : Aside0 (Below w.heap.size w w96) := ⟨(by rw [hw]; exact (Z25 GE226 GE227 GE228 GE235 GE243))⟩; clear hw; obtain ⟨hcz97_0, hcz97_1, hcz97_2, hfz97_0, hfz97_1, hfz97_2⟩ := sqY3 BK235; have q98 : (1 : Int) ≤ ((y244.length : Int) : Int) := of_decide_eq_true Z4; obtain ⟨i098, hi098, _, hsz98, _⟩ := info_parts info31; have hcut98 := cut_from (P := Tryz.prog) 32 31 .i64 Tryz.underlying32 hi098 2 hsz98 Ao94 y244.length co94 1 (by omega) q98; have hr98 := Kd.Q_drop (k := (1 : Int).toNat) HO246.out (by omega); obtain ⟨A98, hA98⟩ : ∃ A1, A1 = (if co94 = (1 : Int).toNat then Ao94 else (Ao94 : Option Addr).map (·.add ((1 : Int).toNat * 2))) := ⟨_, rfl⟩; obtain ⟨c98, hc98⟩ : ∃ c1, c1 = co94 - (1 : Int).toNat := ⟨_, rfl⟩; have hy98 : y247.length = y244.length - (1 : Int).toNat := (by rw [Ny247.out, List.length_drop]); rw [← Ny247.out] at hr98; rw [← hy98, ← hA98, ← hc98] at hcut98; replace hr98 : Kd.Q k31 31 w96 w.heap.size (fun k_ => k_ ≠ gb243) (.slice A98 y247.length c98) y247 := (by rw [hA98, hc98, hy98]; exact hr98); have HE98 : Aside0 ((Value.slice A98 y247.length c98).ownBlock = (.slice Ao94 y244.length co94 : Value).ownBlock) := ⟨by rw [hA98]; split <;> (cases (Ao94 : Option Addr) <;> rfl)⟩; clear hy98 hi098 hsz98 HO246 hA98 hc98; have HO249 := Aside0.mk hr98; clear hr98; replace q98 := eq_true q98; have hnb99 := NB243_226.out; have hnc99 := NB226_243.out; have hnb100 := NB243_227.out; have hnc100 := NB227_243.out; have hnb101 := NB243_228.out; have hnc101 := NB228_243.out; obtain ⟨hcz102_0, hcz102_1, hfz102_0, hfz102_1⟩ := sqY2 BK243; have hnb103 := NB228_226.out; have hnc103 := NB226_228.out; have hnb104 := NB228_227.out; have hnc104 := NB227_228.out; obtain ⟨hcz105_0, hcz105_1, hcz105_2, hfz105_0, hfz105_1, hfz105_2⟩ := sqY3 BK228))
           refine bodyPost_ret (results_ct rfl _ _ gb228 34 #[.int .i64 t240, .int .i64 t241, .slice A98 y247.length c98] (0, 0) _ rfl (Z56 NB228_235 BK228) Tryz.underlying34 rfl (by kernel_rfl)) rfl ?_
           exact ⟨_, Z3, by (with_reducible repeat (first | apply Kd.Q_alloc | apply Kd.Q_drewN | apply Kd.Q_drew)); exact Kd.Q_mono (Kd.Q_far (p := ⟨gb228, 2, none⟩) (Kd.Q_far (p := ⟨gb228, 1, none⟩) (Kd.Q_far (p := ⟨gb228, 0, none⟩) (Kd.Q_far (p := ⟨gb235, 1, none⟩) (Kd.Q_far (p := ⟨gb235, 0, none⟩) (Kd.Q_far (p := ⟨gb235, 2, none⟩) (Kd.Q_types (Kd.Q_types HO249.out BK235.out (by decide)) BK228.out (by decide)) (fun _ hk => hk.1.2) (.slice A98 y247.length c98)) (fun _ hk => hk.1.2) (.int .i64 t240)) (fun _ hk => hk.1.2) (.int .i64 t241)) (fun _ hk => hk.2) (.int .i64 t240)) (fun _ hk => hk.2) (.int .i64 t241)) (fun _ hk => hk.2) (.slice A98 y247.length c98)) (fun _ hk => trivial), Z25 GE226 GE227 GE228 GE235 GE243⟩
          ·rw [if_neg c87] at H
           exact absurd H (by simp)
         ·rw [if_neg c86] at H
          have c86b0 : decide (8 < (y244.length : Int)) = false := decide_eq_false c86
          have c86b1 : decide (8 < y244.length) = false := decide_eq_false (by omega)
          clear c86
          simp only [Option.some.injEq, Prod.mk.injEq] at H
          obtain ⟨rfl, rfl, rfl, rfl⟩ := H
          have hnb106 := NB235_226.out
          have hnc106 := NB226_235.out
          have hnb107 := NB235_227.out
          have hnc107 := NB227_235.out
          have hnb108 := NB235_228.out
          have hnc108 := NB228_235.out
          have hnb109 := NB235_243.out
          have hnc109 := NB243_235.out
          obtain ⟨hcz110_0, hcz110_1, hcz110_2, hfz110_0, hfz110_1, hfz110_2⟩ := sqY3 BK235
          go_wp2_with (first | ((with_reducible refine gate_builtin (b := .append) (xs := #[.tmp 58, .tmp 61]) rfl ?_); (try (refine gate_guard (by rfl) ?_; dsimp only)); at_builtin; refine Kd.Q_append k31 (w0 := w) w.heap.size rfl (.tmp 58) (.tmp 61) 32 31 (.agg #[(.int .i64 0), (.int .i64 0)]) 16 rfl Tryz.underlying32 info31 rfl (by decide) (by omega) (.slice Ao21 t232.length co21) t232 (⟨t230, t231⟩ : S31) [.int .i64 t230, .int .i64 t231] (fun k_ => k_ ≠ gb243) (fun _ => False) rfl rfl ?aP (fun _ hk => hk.elim) ?aF ?aO ?aB ?aS ?aL ?_; (case aP => exact k31_mkM _ _ _ (⟨t230, t231⟩ : S31)); (case aB => exact (Z25 GE226 GE227 GE228 GE235 GE243)); (case aF => exact (fun k_ hk => Kd.freshB (sqK BK243) k_ hk)); (case aO => exact (Z27 HO_236002)); (case aS => exact (below_size (Z25 GE226 GE227 GE228 GE235 GE243))); (case aL => exact Z2 LMc85); intro v245 w111 ho hb hg hat; rw [← Ny244.out] at ho; replace BK226 := Aside0.mk (blk_grown (sqK BK226) hg (Kd.Q_ne HO_236002.out BK226.out (by decide))); replace BK227 := Aside0.mk (blk_grown (sqK BK227) hg (Kd.Q_ne HO_236002.out BK227.out (by decide))); replace BK228 := Aside0.mk (blk_grown (sqK BK228) hg (Kd.Q_ne HO_236002.out BK228.out (by decide))); replace BK235 := Aside0.mk (blk_grown (sqK BK235) hg (Kd.Q_ne HO_236002.out BK235.out (by decide))); replace BK243 := Aside0.mk (blk_grown (sqK BK243) hg (Kd.Q_away HO_236002.out (fun _ hk => hk))); replace HB := Aside0.mk (hb); have HO246 := Aside0.mk (ho); clear HO_236002; clear ho hb hg hat; obtain ⟨Ao112, co112, eo112, _⟩ := Kd.Q_slice HO246.out; subst eo112; obtain ⟨hcz113_0, hcz113_1, hcz113_2, hfz113_0, hfz113_1, hfz113_2⟩ := sqY3 BK235; have hnb114 := NB243_226.out; have hnc114 := NB226_243.out; have hnb115 := NB243_227.out; have hnc115 := NB227_243.out; have hnb116 := NB243_228.out; have hnc116 := NB228_243.out; obtain ⟨hcz117_0, hcz117_1, hfz117_0, hfz117_1⟩ := sqY2 BK243; have hnb118 := NB228_226.out; have hnc118 := NB226_228.out; have hnb119 := NB228_227.out; have hnc119 := NB227_228.out; obtain ⟨hcz120_0, hcz120_1, hcz120_2, hfz120_0, hfz120_1, hfz120_2⟩ := sqY3 BK228))
          refine bodyPost_ret (results_ct rfl _ _ gb228 34 #[.int .i64 t240, .int .i64 t241, .slice Ao112 y244.length co112] (0, 0) _ rfl (Z56 NB228_235 BK228) Tryz.underlying34 rfl (by kernel_rfl)) rfl ?_
          exact ⟨_, Z3, by (with_reducible repeat (first | apply Kd.Q_alloc | apply Kd.Q_drewN | apply Kd.Q_drew)); exact Kd.Q_mono (Kd.Q_far (p := ⟨gb228, 2, none⟩) (Kd.Q_far (p := ⟨gb228, 1, none⟩) (Kd.Q_far (p := ⟨gb228, 0, none⟩) (Kd.Q_far (p := ⟨gb235, 1, none⟩) (Kd.Q_far (p := ⟨gb235, 0, none⟩) (Kd.Q_far (p := ⟨gb235, 2, none⟩) (Kd.Q_types (Kd.Q_types HO246.out BK235.out (by decide)) BK228.out (by decide)) (fun _ hk => hk.1.2) (.slice Ao112 y244.length co112)) (fun _ hk => hk.1.2) (.int .i64 t240)) (fun _ hk => hk.1.2) (.int .i64 t241)) (fun _ hk => hk.2) (.int .i64 t240)) (fun _ hk => hk.2) (.int .i64 t241)) (fun _ hk => hk.2) (.slice Ao112 y244.length co112)) (fun _ hk => trivial), Z25 GE226 GE227 GE228 GE235 GE243⟩
        ·rw [if_neg c85] at H
         exact absurd H (by simp)
 ·replace c4 := Bool.eq_false_iff.mpr c4
  subst c4
  have H1 : (some (0, 0, ([] : List (S31)), false)) = some (r1, r2, r3, r4) := by rw [if_neg (show ¬ (false = true) by decide)] at H; exact H
  clear H
  have H := H1
  clear H1
  simp only [Option.some.injEq, Prod.mk.injEq] at H
  obtain ⟨rfl, rfl, rfl, rfl⟩ := H
  go_enter Tryz.func14, Tryz.ntmps14
  go_wp2_with (first | ((with_reducible refine gate_dst (N := 2) rfl ?_); (try (refine gate_guard (by rfl) ?_; dsimp only)); refine sqBox (N := 2) (cs := #[.int .i64 a0_0, .int .i64 a0_1, .slice A0_2 l0_2.length c0_2]) (t := 34) ?_; intro gb226 hg w121 BK226 hb; have GW226 := Aside0.mk ((sqG hg (sqB HB))); have GE226 := GW226; replace HB := sqS (sqB HB) hb; clear hb hg) | ((with_reducible refine gate_dst (N := 3) rfl ?_); (try (refine gate_guard (by rfl) ?_; dsimp only)); refine sqBox (N := 3) (cs := #[.int .i64 a1_0, .string a1_1]) (t := 38) ?_; intro gb227 hg w122 BK227 hb; have GW227 := Aside0.mk ((sqG hg (sqB1 HB GE226))); have GE227 := GW227; replace HB := sqS (sqB1 HB GE226) hb; obtain ⟨NB226_227, NB227_226⟩ := sqM hg BK226; replace BK226 := sqT BK226 hb; clear hb hg) | ((with_reducible refine gate_dst (N := 4) rfl ?_); (try (refine gate_guard (by rfl) ?_; dsimp only)); refine sqBox (N := 4) (cs := #[.int .i64 0, .int .i64 0, .slice none 0 0]) (t := 34) ?_; intro gb228 hg w123 BK228 hb; have GW228 := Aside0.mk ((sqG hg (sqB2 HB GE226 GE227))); have GE228 := GW228; replace HB := sqS (sqB2 HB GE226 GE227) hb; obtain ⟨NB226_228, NB228_226⟩ := sqM hg BK226; replace BK226 := sqT BK226 hb; obtain ⟨NB227_228, NB228_227⟩ := sqM hg BK227; replace BK227 := sqT BK227 hb; clear hb hg; have hnb124 := NB226_227.out; have hnc124 := NB227_226.out; have hnb125 := NB226_228.out; have hnc125 := NB228_226.out; obtain ⟨hcz126_0, hcz126_1, hcz126_2, hfz126_0, hfz126_1, hfz126_2⟩ := sqY3 BK226) | ((with_reducible refine gate_callee (f := 30) rfl ?_); refine goesL_ (some 11) rfl rfl Tryz.func30 (by kernel_rfl) rfl #[.agg #[.int .i64 a0_0, .int .i64 a0_1, .slice A0_2 l0_2.length c0_2]] rfl sqA ?_; (with_reducible refine (spec_DeskOk.calls k a0_0 a0_1 _ _ l0_2 false _ ?side1 ?side2 A3.out).mono ?_); (case side1 => exact Z5); (case side2 => exact Z6); rintro e w127 ⟨rfl, hb⟩; refine ⟨_, rfl, ?_⟩; replace BK226 := sqT BK226 hb; replace BK227 := sqT BK227 hb; replace BK228 := sqT BK228 hb; replace HB := sqS (sqB3 HB GE226 GE227 GE228) hb; (try clear hb); have hnb128 := NB228_227.out; have hnc128 := NB227_228.out; obtain ⟨hcz129_0, hcz129_1, hcz129_2, hfz129_0, hfz129_1, hfz129_2⟩ := sqY3 BK228))
  refine bodyPost_ret (results_ct rfl _ _ gb228 34 #[.int .i64 0, .int .i64 0, .slice none 0 0] (0, 0) _ rfl (Z30 BK228) Tryz.underlying34 rfl (by kernel_rfl)) rfl ?_
  exact ⟨_, Z3, Kd.Q_of_R Z31, sqB3 HB GE226 GE227 GE228⟩

/-! ### laws_toFraction: function 58 -/
def laws_toFraction.f (a0_0 : Int) (a0_1 : Int) : Option (Int × Int) := some (a0_0, a0_1)
set_option maxHeartbeats 8000000 in
set_option maxRecDepth 100000 in
theorem laws_toFraction.calls (a0_0 : Int) (a0_1 : Int) (r1 : Int) (r2 : Int) (w : World) (h : laws_toFraction.f a0_0 a0_1 = some (r1, r2)) :
  Calls Tryz.prog 58 #[.agg #[.int .i64 a0_0, .int .i64 a0_1]] w fun e w' => e = .returned (.agg #[.int .i64 r1, .int .i64 r2]) ∧ Below w.heap.size w w' := by
 have hu23 := Tryz.underlying23
 have hu31 := Tryz.underlying31
 have HB := Aside0.mk (Below.refl w.heap.size w)
 have H : (some (a0_0, a0_1)) = some (r1, r2) := h
 clear h
 simp only [Option.some.injEq, Prod.mk.injEq] at H
 obtain ⟨rfl, rfl⟩ := H
 go_enter Tryz.func58, Tryz.ntmps58
 go_wp2_with (first | ((with_reducible refine gate_dst (N := 1) rfl ?_); refine sqBox (N := 1) (cs := #[.int .i64 a0_0, .int .i64 a0_1]) (t := 23) ?_; intro gb250 hg w2 BK250 hb; have GW250 := Aside0.mk ((sqG hg (sqB HB))); have GE250 := GW250; replace HB := sqS (sqB HB) hb; clear hb hg) | ((with_reducible refine gate_dst (N := 2) rfl ?_); refine sqBox (N := 2) (cs := #[.int .i64 0, .int .i64 0]) (t := 31) ?_; intro gb251 hg w3 BK251 hb; have GW251 := Aside0.mk ((sqG hg (sqB1 HB GE250))); have GE251 := GW251; replace HB := sqS (sqB1 HB GE250) hb; obtain ⟨NB250_251, NB251_250⟩ := sqM hg BK250; replace BK250 := sqT BK250 hb; clear hb hg) | ((with_reducible refine gate_dst (N := 3) rfl ?_); refine sqBox (N := 3) (cs := #[.int .i64 0, .int .i64 0]) (t := 31) ?_; intro gb252 hg w4 BK252 hb; have GW252 := Aside0.mk ((sqG hg (sqB2 HB GE250 GE251))); have GE252 := GW252; replace HB := sqS (sqB2 HB GE250 GE251) hb; obtain ⟨NB250_252, NB252_250⟩ := sqM hg BK250; replace BK250 := sqT BK250 hb; obtain ⟨NB251_252, NB252_251⟩ := sqM hg BK251; replace BK251 := sqT BK251 hb; clear hb hg; have hnb5 := NB250_251.out; have hnc5 := NB251_250.out; have hnb6 := NB250_252.out; have hnc6 := NB252_250.out; obtain ⟨hcz7_0, hcz7_1, hfz7_0, hfz7_1⟩ := sqY2 BK250; have hnb8 := NB252_251.out; have hnc8 := NB251_252.out; obtain ⟨hcz9_0, hcz9_1, hfz9_0, hfz9_1⟩ := sqY2 BK252; obtain ⟨hcz10_0, hcz10_1, hfz10_0, hfz10_1⟩ := sqY2 BK251))
 refine bodyPost_ret (results_cell_row rfl _ _ gb251 31 #[.int .i64 a0_0, .int .i64 a0_1] (0, 0) _ rfl (by refine sqPut (cs := #[.int .i64 a0_0, .int .i64 0]) ?_ 1; refine sqPut (cs := #[.int .i64 0, .int .i64 0]) ?_ 0; refine sqFar ?_ NB251_252; refine sqFar ?_ NB251_252; exact sqK BK251) Tryz.underlying31 rfl (by kernel_rfl)) rfl ?_
 exact ⟨Z3, sqB3 HB GE250 GE251 GE252⟩

/-! ### laws_toFractionS: function 59 -/
def laws_toFractionS.l0 : Nat → List (S23) → List (S31) → Int → Option ((List (S31)))
 | 0, _, _, _ => none
 | k + 1, x0, x3, x4 => if x4 < (x0.length : Int) then (if 0 ≤ x4 then ((laws_toFraction.f ((rd_T23 x0 x4).f0) ((rd_T23 x0 x4).f1)).bind fun bt257 => (if x4 < (x3.length : Int) then (laws_toFractionS.l0 k x0 (x3.set (x4 : Int).toNat (⟨bt257.1, bt257.2⟩ : S31)) (wrap64 (x4 + 1))) else (none))) else (none)) else (some x3)
def laws_toFractionS.f (k : Nat) (l0 : List (S23)) : Option ((List (S31))) := if 0 ≤ (l0.length : Int) then (if ((l0.length : Int) : Int).toNat ≤ 17592186044416 then (laws_toFractionS.l0 k l0 (List.replicate ((l0.length : Int) : Int).toNat z31) 0) else (none)) else (none)
theorem laws_toFractionS.mono_l : ∀ k, (∀ y0 y1 y2, LeO (laws_toFractionS.l0 k y0 y1 y2) (laws_toFractionS.l0 (k + 1) y0 y1 y2))
 | 0 => fun _ _ _ r h => by simp [laws_toFractionS.l0] at h
 | k + 1 => by
  have ih0 := laws_toFractionS.mono_l k
  ·intro y0 y1 y2
   unfold laws_toFractionS.l0
   repeat' first
   | (with_reducible exact ih0 _ _ _)
   | (with_reducible exact LeO.refl _)
   | (with_reducible exact LeO.none _)
   | (with_reducible refine LeO.ite ?_ ?_)
   | (with_reducible refine LeO.bind ?_ (fun _ => ?_))
theorem laws_toFractionS.mono : ∀ a0 k, LeO (laws_toFractionS.f k a0) (laws_toFractionS.f (k + 1) a0) := by
 intro a0 k
 have ih0 := laws_toFractionS.mono_l k
 unfold laws_toFractionS.f
 repeat' first
   | (with_reducible exact ih0 _ _ _)
   | (with_reducible exact LeO.refl _)
   | (with_reducible exact LeO.none _)
   | (with_reducible refine LeO.ite ?_ ?_)
   | (with_reducible refine LeO.bind ?_ (fun _ => ?_))
set_option maxHeartbeats 8000000 in
set_option maxRecDepth 100000 in
theorem laws_toFractionS.calls (k : Nat) (A0 : Option Addr) (c0 : Nat) (l0 : List (S23)) (r : List (S31)) (w : World) (hr0 : Kd.C k23 w A0 l0.length l0) (hc0 : l0.length ≤ c0) (h : laws_toFractionS.f k l0 = some r) :
  Calls Tryz.prog 59 #[.slice A0 l0.length c0] w fun e w' => ∃ v0_ : Value, e = .returned (v0_) ∧ Kd.R k31 31 w' w.heap.size (fun _ => True) v0_ r ∧ Below w.heap.size w w' := by
 have hu23 := Tryz.underlying23
 have hu31 := Tryz.underlying31
 have HR0 := Aside0.mk hr0
 have HC0 := Aside0.mk hc0
 clear hr0 hc0
 have HB := Aside0.mk (Below.refl w.heap.size w)
 have H : (if 0 ≤ (l0.length : Int) then (if ((l0.length : Int) : Int).toNat ≤ 17592186044416 then (laws_toFractionS.l0 k l0 (List.replicate ((l0.length : Int) : Int).toNat z31) 0) else (none)) else (none)) = some r := h
 clear h
 by_cases c2 : 0 ≤ (l0.length : Int)
 ·rw [if_pos c2] at H
  have c2b0 := eq_true c2
  have c2b1 : decide (0 ≤ (l0.length : Int)) = true := decide_eq_true c2
  clear c2
  by_cases c3 : ((l0.length : Int) : Int).toNat ≤ 17592186044416
  ·rw [if_pos c3] at H
   have c3b0 := eq_true c3
   have c3b1 : decide (((l0.length : Int) : Int).toNat ≤ 17592186044416) = true := decide_eq_true c3
   clear c3
   obtain ⟨y253, hy253⟩ : ∃ y_ : List (S31), y_ = (List.replicate ((l0.length : Int) : Int).toNat z31) := ⟨_, rfl⟩
   replace H : (laws_toFractionS.l0 k l0 y253 0) = some r := by first | (rw [hy253]; with_reducible exact H) | (have H2_ := (Option.bind_some _ _).symm.trans H; rw [hy253]; with_reducible exact H2_) | (have H2_ := (Option.bind_some _ _).symm.trans H; with_reducible exact H2_) | with_reducible exact H | (rw [hy253]; exact H) | exact H
   have Ny253 := Aside0.mk hy253
   clear hy253
   have H' := Aside0.mk H
   clear H
   go_enter Tryz.func59, Tryz.ntmps59
   go_wp2_with (first | ((with_reducible refine gate_dst (N := 7) rfl ?_); refine Kd.R_make k31 _ 31 rfl (N := 7) rfl 32 _ _ rfl (l0.length : Int) rfl rfl Tryz.underlying32 (.agg #[(.int .i64 0), (.int .i64 0)]) 16 info31 rfl (by decide) (by omega) z31 (ok := fun _ => True) (okp := fun _ => True) (k31_mkM _ _ _ z31 ) (fun _ hk => hk) trivial (of_decide_eq_true Z4) (Nat.le_trans (Nat.mul_le_mul_right _ (of_decide_eq_true Z4 : (l0.length : Int).toNat ≤ 17592186044416)) (by omega)) (Below.refl _ _) (Nat.le_refl _) ?_; intro v254 w4 ho5 hb hg_ hnew_; clear hg_ hnew_; (first | rw [← Ny253.out] at ho5 | (simp only [Int.reduceToNat] at ho5; rw [← Ny253.out] at ho5)); have HO255 := sqL ho5 (sqB HB); replace HB := sqS (sqB HB) hb; clear hb ho5))
   go_loopg [4] k (fun kq v4 w' => ∃ (x3_1 : List (S31)) (x4_1 : Int), v4 = .int .i64 x4_1 ∧ Aside0 (laws_toFractionS.l0 kq l0 x3_1 x4_1 = some r) ∧ Aside0 (kq ≤ k) ∧ Aside0 (Kd.R k31 31 w' w.heap.size (fun _ => True) v254 x3_1) ∧ Aside0 (Below w.heap.size w w'))
   case atStart => exact ⟨(y253), (0), Z1, H', ⟨Nat.le_refl _⟩, ⟨sqR HO255⟩, ⟨sqB HB⟩⟩
   case round =>
    clear H'
    try clear c2; try clear c2b0; try clear c2b1; try clear p2; try clear c3; try clear c3b0; try clear c3b1; try clear c5
    obtain ⟨x3_1, x4_1, rfl, HA, HK1, HO_3, HB⟩ := hrel
    cases gk with
    | zero => exact absurd HA.out (by simp [laws_toFractionS.l0])
    | succ k1 =>
     have H := HA.out
     clear HA
     simp only [laws_toFractionS.l0] at H
     by_cases c6 : x4_1 < (l0.length : Int)
     ·rw [if_pos c6] at H
      have c6b0 : decide (x4_1 < (l0.length : Int)) = true := decide_eq_true c6
      clear c6
      by_cases c7 : 0 ≤ x4_1
      ·rw [if_pos c7] at H
       have c7b0 : decide (0 ≤ x4_1) = true := decide_eq_true c7
       clear c7
       replace H := Option.bind_eq_some_iff.mp H
       obtain ⟨⟨t257, t258⟩, A80, H⟩ := H
       replace H : (if x4_1 < (x3_1.length : Int) then (laws_toFractionS.l0 k1 l0 (x3_1.set (x4_1 : Int).toNat (⟨t257, t258⟩ : S31)) (wrap64 (x4_1 + 1))) else (none)) = some r := H
       have A8 := Aside0.mk A80
       clear A80
       by_cases c9 : x4_1 < (x3_1.length : Int)
       ·rw [if_pos c9] at H
        have c9b0 : decide (x4_1 < (x3_1.length : Int)) = true := decide_eq_true c9
        clear c9
        obtain ⟨y259, hy259⟩ : ∃ y_ : List (S31), y_ = (x3_1.set (x4_1 : Int).toNat (⟨t257, t258⟩ : S31)) := ⟨_, rfl⟩
        replace H : (laws_toFractionS.l0 k1 l0 y259 (wrap64 (x4_1 + 1))) = some r := by first | (rw [hy259]; with_reducible exact H) | (have H2_ := (Option.bind_some _ _).symm.trans H; rw [hy259]; with_reducible exact H2_) | (have H2_ := (Option.bind_some _ _).symm.trans H; with_reducible exact H2_) | with_reducible exact H | (rw [hy259]; exact H) | exact H
        have Ny259 := Aside0.mk hy259
        clear hy259
        have H' := Aside0.mk H
        clear H
        have p256 : 0 ≤ (x4_1 : Int) := of_decide_eq_true Z4
        have q256 : x4_1 < (l0.length : Int) := of_decide_eq_true Z4
        obtain ⟨ad256, e256, hx256_0, hx256_1⟩ := at_T23 HR0.out x4_1 p256 q256
        cases e256
        replace hx256_0 := (HB.out.cell (World.block_lt_of_cell? w _ hx256_0)).trans hx256_0
        replace hx256_1 := (HB.out.cell (World.block_lt_of_cell? w _ hx256_1)).trans hx256_1
        replace p256 := eq_true p256
        replace q256 := eq_true q256
        go_wp2_with (first | ((with_reducible refine gate_callee (f := 58) rfl ?_); refine goesL_ (some 20) rfl rfl Tryz.func58 (by kernel_rfl) rfl #[.agg #[.int .i64 ((rd_T23 l0 x4_1).f0), .int .i64 ((rd_T23 l0 x4_1).f1)]] rfl sqA ?_; (with_reducible refine (laws_toFraction.calls ((rd_T23 l0 x4_1).f0) ((rd_T23 l0 x4_1).f1) t257 t258 _ A8.out).mono ?_); rintro e w11 ⟨rfl, hb⟩; refine ⟨_, rfl, ?_⟩; replace HO_3 := sqU HO_3 hb; replace HB := sqS (sqB HB) hb; (try clear hb); have p10 : 0 ≤ (x4_1 : Int) := of_decide_eq_true Z4; have q10 : (x4_1 : Int) < ((x3_1.length : Int) : Int) := of_decide_eq_true Z4; obtain ⟨go10, co10, eo10, gb10, gl10, cl10, HG10⟩ := Kd.R_form HO_3.out (by omega); (first | cases eo10 | (injection eo10 with ea_ en_ ec_; (first | subst ea_ | (injection ea_ with ea_; subst ea_)); subst ec_; clear en_)); have GB10 := Aside0.mk gb10; have GG10 := Aside0.mk HG10; clear gb10 gl10 HG10; obtain ⟨ce10, hcl10, hM10, hcc10, hfr10⟩ := Kd.R_elem HO_3.out z31 (x4_1 : Int) p10 q10; obtain rfl := k31_openM hM10; have hx10_0 : w11.cell? ⟨go10, (x4_1 : Int).toNat * 2, none⟩ = some (.int .i64 ((rd_T31 x3_1 x4_1).f0)) := hcc10 0 _ rfl; have hx10_1 : w11.cell? ⟨go10, (x4_1 : Int).toNat * 2 + 1, none⟩ = some (.int .i64 ((rd_T31 x3_1 x4_1).f1)) := hcc10 1 _ rfl; have hf10_0 : w11.frozen? ⟨go10, (x4_1 : Int).toNat * 2, none⟩ = false := hfr10 0; have hf10_1 : w11.frozen? ⟨go10, (x4_1 : Int).toNat * 2 + 1, none⟩ = false := hfr10 1; clear hcl10 hcc10 hfr10 hM10; replace p10 := eq_true p10; replace q10 := eq_true q10; have HX12 := Aside0.mk (show Kd.R k31 31 w11 w.heap.size (fun _ => True) (.slice (some ⟨go10, 0, none⟩) x3_1.length co10) x3_1 from (sqR HO_3)); obtain ⟨ce12, hcl12, hM12, hcc12, hfr12⟩ := Kd.R_elem HX12.out z31 (x4_1 : Int) (of_decide_eq_true Z4) (by have h_ : (x4_1 : Int) < ((x3_1.length : Int) : Int) := of_decide_eq_true Z4; first | exact h_ | (have e_ := (Kd.R_reads' HO_3.out).1; omega) | simpa using h_); obtain rfl := k31_openM hM12; have HP12 := Kd.R_seg HX12.out (x4_1 : Int) (of_decide_eq_true Z4) (by have h_ : (x4_1 : Int) < ((x3_1.length : Int) : Int) := of_decide_eq_true Z4; first | exact h_ | (have e_ := (Kd.R_reads' HO_3.out).1; omega) | simpa using h_) (seg := [.int .i64 t257, .int .i64 t258]) (j := 0) hcl12 hcc12 (show 2 ≤ 2 from by decide) (x' := (⟨t257, t258⟩ : S31)) (k31_mkM _ _ _ (⟨t257, t258⟩ : S31) ) (fun _ hk => hk); have hx12_0 := hcc12 0 _ rfl; (try simp only [show (k31).sz = 2 from rfl, Nat.mul_one, Nat.add_zero] at hx12_0); have hf12_0 := hfr12 0; (try simp only [show (k31).sz = 2 from rfl, Nat.mul_one, Nat.add_zero] at hf12_0); have hx12_1 := hcc12 1 _ rfl; (try simp only [show (k31).sz = 2 from rfl, Nat.mul_one, Nat.add_zero] at hx12_1); have hf12_1 := hfr12 1; (try simp only [show (k31).sz = 2 from rfl, Nat.mul_one, Nat.add_zero] at hf12_1); clear hcl12 hcc12 hfr12 hM12) | ((with_reducible refine gate_store (t := 31) (p := 21) rfl ?_); refine store_event (t := 31) (p := 21) (v := ?vo_w13) (w1 := ((w11.setCell ⟨go10, (x4_1 : Int).toNat * 2, none⟩ (.int .i64 t257)).setCell ⟨go10, (x4_1 : Int).toNat * 2 + 1, none⟩ (.int .i64 t258))) ?hg ?ho ?hn ?hr ?_; (case ho => rfl); (case hg => rfl); (case hn => rfl); (case hr => exact Z7); intro w13 hw; have hg : w11.grownBy w13 (some go10) := (by rw [hw]; exact HP12.2); have hp_ : Kd.R k31 31 w13 w.heap.size (fun _ => True) (.slice (some ⟨go10, 0, none⟩) x3_1.length co10) y259 := (by rw [hw, Ny259.out]; exact HP12.1); clear HP12; replace HO_3 := Aside0.mk (hp_); replace HB := Aside0.mk ((by rw [hw]; exact below_set (below_set (HB.out) GB10.out) GB10.out : Below w.heap.size w w13)); clear hg hw hp_))
        go_roundg k1
        case measure => have := HK1.out; omega
        case rel => exact ⟨(y259), (wrap64 (x4_1 + 1)), Z1, H', ⟨Z2 HK1⟩, ⟨sqR HO_3⟩, ⟨sqB HB⟩⟩
       ·rw [if_neg c9] at H
        exact absurd H (by simp)
      ·rw [if_neg c7] at H
       exact absurd H (by simp)
     ·rw [if_neg c6] at H
      have c6b0 : decide (x4_1 < (l0.length : Int)) = false := decide_eq_false c6
      clear c6
      obtain rfl := Option.some.inj H
      go_wp2
      go_ret
      exact ⟨_, Z3, Z34 HO_3, sqB HB⟩
  ·rw [if_neg c3] at H
   exact absurd H (by simp)
 ·rw [if_neg c2] at H
  exact absurd H (by simp)

/-! ### laws_toDesk: function 15 -/
def laws_toDesk.f (k : Nat) (a0_0 : Int) (a0_1 : Int) (l0_2 : List (S23)) : Option (Int × Int × (List (S31))) := (laws_toFraction.f a0_0 a0_1).bind fun bt263 => ((laws_toFractionS.f k l0_2).bind fun t265 => (some (bt263.1, bt263.2, t265)))
theorem laws_toDesk.mono : ∀ a0 a1 a2 k, LeO (laws_toDesk.f k a0 a1 a2) (laws_toDesk.f (k + 1) a0 a1 a2) := by
 intro a0 a1 a2 k
 unfold laws_toDesk.f
 repeat' first
   | (with_reducible exact laws_toFractionS.mono _ _)
   | (with_reducible exact LeO.refl _)
   | (with_reducible exact LeO.none _)
   | (with_reducible refine LeO.ite ?_ ?_)
   | (with_reducible refine LeO.bind ?_ (fun _ => ?_))
set_option maxHeartbeats 8000000 in
set_option maxRecDepth 100000 in
theorem laws_toDesk.calls (k : Nat) (a0_0 : Int) (a0_1 : Int) (A0_2 : Option Addr) (c0_2 : Nat) (l0_2 : List (S23)) (r1 : Int) (r2 : Int) (r3 : List (S31)) (w : World) (hr0_2 : Kd.C k23 w A0_2 l0_2.length l0_2) (hc0_2 : l0_2.length ≤ c0_2) (h : laws_toDesk.f k a0_0 a0_1 l0_2 = some (r1, r2, r3)) :
  Calls Tryz.prog 15 #[.agg #[.int .i64 a0_0, .int .i64 a0_1, .slice A0_2 l0_2.length c0_2]] w fun e w' => ∃ v2_ : Value, e = .returned (.agg #[.int .i64 r1, .int .i64 r2, v2_]) ∧ Kd.R k31 31 w' w.heap.size (fun _ => True) v2_ r3 ∧ Below w.heap.size w w' := by
 have hu26 := Tryz.underlying26
 have hu34 := Tryz.underlying34
 have hu23 := Tryz.underlying23
 have hu31 := Tryz.underlying31
 have HR0_2 := Aside0.mk hr0_2
 have HC0_2 := Aside0.mk hc0_2
 clear hr0_2 hc0_2
 have HB := Aside0.mk (Below.refl w.heap.size w)
 have H : ((laws_toFraction.f a0_0 a0_1).bind fun bt263 => ((laws_toFractionS.f k l0_2).bind fun t265 => (some (bt263.1, bt263.2, t265)))) = some (r1, r2, r3) := h
 clear h
 replace H := Option.bind_eq_some_iff.mp H
 obtain ⟨⟨t263, t264⟩, A20, H⟩ := H
 replace H : ((laws_toFractionS.f k l0_2).bind fun t265 => (some (t263, t264, t265))) = some (r1, r2, r3) := H
 have A2 := Aside0.mk A20
 clear A20
 obtain ⟨t265, A3, H⟩ := sqD H
 simp only [Option.some.injEq, Prod.mk.injEq] at H
 obtain ⟨rfl, rfl, rfl⟩ := H
 go_enter Tryz.func15, Tryz.ntmps15
 go_wp2_with (first | ((with_reducible refine gate_dst (N := 1) rfl ?_); refine sqBox (N := 1) (cs := #[.int .i64 a0_0, .int .i64 a0_1, .slice A0_2 l0_2.length c0_2]) (t := 26) ?_; intro gb260 hg w4 BK260 hb; have GW260 := Aside0.mk ((sqG hg (sqB HB))); have GE260 := GW260; replace HB := sqS (sqB HB) hb; clear hb hg) | ((with_reducible refine gate_dst (N := 2) rfl ?_); refine sqBox (N := 2) (cs := #[.int .i64 0, .int .i64 0, .slice none 0 0]) (t := 34) ?_; intro gb261 hg w5 BK261 hb; have GW261 := Aside0.mk ((sqG hg (sqB1 HB GE260))); have GE261 := GW261; replace HB := sqS (sqB1 HB GE260) hb; obtain ⟨NB260_261, NB261_260⟩ := sqM hg BK260; replace BK260 := sqT BK260 hb; clear hb hg) | ((with_reducible refine gate_dst (N := 3) rfl ?_); refine sqBox (N := 3) (cs := #[.int .i64 0, .int .i64 0, .slice none 0 0]) (t := 34) ?_; intro gb262 hg w6 BK262 hb; have GW262 := Aside0.mk ((sqG hg (sqB2 HB GE260 GE261))); have GE262 := GW262; replace HB := sqS (sqB2 HB GE260 GE261) hb; obtain ⟨NB260_262, NB262_260⟩ := sqM hg BK260; replace BK260 := sqT BK260 hb; obtain ⟨NB261_262, NB262_261⟩ := sqM hg BK261; replace BK261 := sqT BK261 hb; clear hb hg; have hnb7 := NB260_261.out; have hnc7 := NB261_260.out; have hnb8 := NB260_262.out; have hnc8 := NB262_260.out; obtain ⟨hcz9_0, hcz9_1, hcz9_2, hfz9_0, hfz9_1, hfz9_2⟩ := sqY3 BK260) | ((with_reducible refine gate_callee (f := 58) rfl ?_); refine goesL_ (some 6) rfl rfl Tryz.func58 (by kernel_rfl) rfl #[.agg #[.int .i64 a0_0, .int .i64 a0_1]] rfl sqA ?_; (with_reducible refine (laws_toFraction.calls a0_0 a0_1 t263 t264 _ A2.out).mono ?_); rintro e w10 ⟨rfl, hb⟩; refine ⟨_, rfl, ?_⟩; replace BK260 := sqT BK260 hb; replace BK261 := sqT BK261 hb; replace BK262 := sqT BK262 hb; replace HB := sqS (sqB3 HB GE260 GE261 GE262) hb; (try clear hb); have hnb11 := NB262_261.out; have hnc11 := NB261_262.out; obtain ⟨hcz12_0, hcz12_1, hcz12_2, hfz12_0, hfz12_1, hfz12_2⟩ := sqY3 BK262; obtain ⟨hcz13_0, hcz13_1, hcz13_2, hfz13_0, hfz13_1, hfz13_2⟩ := sqY3 BK260) | ((with_reducible refine gate_callee (f := 59) rfl ?_); refine goesL_ (some 10) rfl rfl Tryz.func59 (by kernel_rfl) rfl #[.slice A0_2 l0_2.length c0_2] rfl sqA ?_; (with_reducible refine (laws_toFractionS.calls k _ _ l0_2 t265 _ ?side1 ?side2 A3.out).mono ?_); (case side1 => exact Kd.C_below HR0_2.out (sqB3 HB GE260 GE261 GE262)); (case side2 => exact Z6); rintro e w14 ⟨v266, rfl, ho0, hb⟩; refine ⟨_, rfl, ?_⟩; have HO267 := sqL ho0 (sqB3 HB GE260 GE261 GE262); replace BK260 := Aside0.mk (blk_below (g := gb260) (o := .cells #[.int .i64 a0_0, .int .i64 a0_1, .slice A0_2 l0_2.length c0_2] 26 (0, 0)) (Z13 NB260_262 BK260) hb); replace BK261 := Aside0.mk (blk_below (g := gb261) (o := .cells #[.int .i64 0, .int .i64 0, .slice none 0 0] 34 (0, 0)) (Z13 NB261_262 BK261) hb); replace BK262 := Aside0.mk (blk_below (g := gb262) (o := .cells #[.int .i64 t263, .int .i64 t264, .slice none 0 0] 34 (0, 0)) (by refine sqPut (cs := #[.int .i64 t263, .int .i64 0, .slice none 0 0]) ?_ 1; refine sqPut (cs := #[.int .i64 0, .int .i64 0, .slice none 0 0]) ?_ 0; exact sqK BK262) hb); replace HB := sqS (sqB3 HB GE260 GE261 GE262) hb; (try clear hb); (try clear ho0); obtain ⟨Ao15, co15, eo15⟩ := Kd.R_slice HO267.out; subst eo15; obtain ⟨hcz16_0, hcz16_1, hcz16_2, hfz16_0, hfz16_1, hfz16_2⟩ := sqY3 BK262; obtain ⟨hcz17_0, hcz17_1, hcz17_2, hfz17_0, hfz17_1, hfz17_2⟩ := sqY3 BK261))
 refine bodyPost_ret (results_cell_row rfl _ _ gb261 34 #[.int .i64 t263, .int .i64 t264, .slice Ao15 t265.length co15] (0, 0) _ rfl (by refine sqPut (cs := #[.int .i64 t263, .int .i64 t264, .slice none 0 0]) ?_ 2; refine sqPut (cs := #[.int .i64 t263, .int .i64 0, .slice none 0 0]) ?_ 1; refine sqPut (cs := #[.int .i64 0, .int .i64 0, .slice none 0 0]) ?_ 0; refine sqFar ?_ NB261_262; exact sqK BK261) Tryz.underlying34 rfl (by kernel_rfl)) rfl ?_
 exact ⟨_, Z3, by (with_reducible repeat (first | apply Kd.R_alloc | apply Kd.R_drewN | apply Kd.R_drew)); exact Kd.R_mono (Kd.R_far (p := ⟨gb261, 2, none⟩) (Kd.R_far (p := ⟨gb261, 1, none⟩) (Kd.R_far (p := ⟨gb261, 0, none⟩) (Kd.R_far (p := ⟨gb262, 2, none⟩) (Kd.R_types (Kd.R_types HO267.out BK262.out (by decide)) BK261.out (by decide)) (fun _ hk => hk.1.2) (.slice Ao15 t265.length co15)) (fun _ hk => hk.2) (.int .i64 t263)) (fun _ hk => hk.2) (.int .i64 t264)) (fun _ hk => hk.2) (.slice Ao15 t265.length co15)) (fun _ hk => trivial), sqB3 HB GE260 GE261 GE262⟩

/-! ### laws_toDeed: function 16 -/
def laws_toDeed.f (a0_0 : Int) (a0_1 : ByteArray) : Option (Int × ByteArray) := some (a0_0, a0_1)
set_option maxHeartbeats 8000000 in
set_option maxRecDepth 100000 in
theorem laws_toDeed.calls (a0_0 : Int) (a0_1 : ByteArray) (r1 : Int) (r2 : ByteArray) (w : World) (h : laws_toDeed.f a0_0 a0_1 = some (r1, r2)) :
  Calls Tryz.prog 16 #[.agg #[.int .i64 a0_0, .string a0_1]] w fun e w' => e = .returned (.agg #[.int .i64 r1, .string r2]) ∧ Below w.heap.size w w' := by
 have hu28 := Tryz.underlying28
 have hu38 := Tryz.underlying38
 have HB := Aside0.mk (Below.refl w.heap.size w)
 have H : (some (a0_0, a0_1)) = some (r1, r2) := h
 clear h
 simp only [Option.some.injEq, Prod.mk.injEq] at H
 obtain ⟨rfl, rfl⟩ := H
 go_enter Tryz.func16, Tryz.ntmps16
 go_wp2_with (first | ((with_reducible refine gate_dst (N := 1) rfl ?_); refine sqBox (N := 1) (cs := #[.int .i64 a0_0, .string a0_1]) (t := 28) ?_; intro gb268 hg w2 BK268 hb; have GW268 := Aside0.mk ((sqG hg (sqB HB))); have GE268 := GW268; replace HB := sqS (sqB HB) hb; clear hb hg) | ((with_reducible refine gate_dst (N := 2) rfl ?_); refine sqBox (N := 2) (cs := #[.int .i64 0, .string (⟨#[]⟩ : ByteArray)]) (t := 38) ?_; intro gb269 hg w3 BK269 hb; have GW269 := Aside0.mk ((sqG hg (sqB1 HB GE268))); have GE269 := GW269; replace HB := sqS (sqB1 HB GE268) hb; obtain ⟨NB268_269, NB269_268⟩ := sqM hg BK268; replace BK268 := sqT BK268 hb; clear hb hg) | ((with_reducible refine gate_dst (N := 3) rfl ?_); refine sqBox (N := 3) (cs := #[.int .i64 0, .string (⟨#[]⟩ : ByteArray)]) (t := 38) ?_; intro gb270 hg w4 BK270 hb; have GW270 := Aside0.mk ((sqG hg (sqB2 HB GE268 GE269))); have GE270 := GW270; replace HB := sqS (sqB2 HB GE268 GE269) hb; obtain ⟨NB268_270, NB270_268⟩ := sqM hg BK268; replace BK268 := sqT BK268 hb; obtain ⟨NB269_270, NB270_269⟩ := sqM hg BK269; replace BK269 := sqT BK269 hb; clear hb hg; have hnb5 := NB268_269.out; have hnc5 := NB269_268.out; have hnb6 := NB268_270.out; have hnc6 := NB270_268.out; obtain ⟨hcz7_0, hcz7_1, hfz7_0, hfz7_1⟩ := sqY2 BK268; have hnb8 := NB270_269.out; have hnc8 := NB269_270.out; obtain ⟨hcz9_0, hcz9_1, hfz9_0, hfz9_1⟩ := sqY2 BK270; obtain ⟨hcz10_0, hcz10_1, hfz10_0, hfz10_1⟩ := sqY2 BK269))
 refine bodyPost_ret (results_cell_row rfl _ _ gb269 38 #[.int .i64 a0_0, .string a0_1] (0, 0) _ rfl (by refine sqPut (cs := #[.int .i64 a0_0, .string (⟨#[]⟩ : ByteArray)]) ?_ 1; refine sqPut (cs := #[.int .i64 0, .string (⟨#[]⟩ : ByteArray)]) ?_ 0; refine sqFar ?_ NB269_270; refine sqFar ?_ NB269_270; exact sqK BK269) Tryz.underlying38 rfl (by kernel_rfl)) rfl ?_
 exact ⟨Z3, sqB3 HB GE268 GE269 GE270⟩

/-! ### impl_isPart: function 116 -/
def impl_isPart.f (a0 : Int) : Option (Bool) := if a0 ≥ (-1000000) then (some (decide (a0 ≤ 1000000))) else (some false)
set_option maxHeartbeats 8000000 in
set_option maxRecDepth 100000 in
theorem impl_isPart.calls (a0 : Int) (r : Bool) (w : World) (h : impl_isPart.f a0 = some r) :
  Calls Tryz.prog 116 #[.int .i64 a0] w fun e w' => e = .returned (.bool r) ∧ Drawn0 w w' := by
 have H : (if a0 ≥ (-1000000) then (some (decide (a0 ≤ 1000000))) else (some false)) = some r := h
 clear h
 by_cases c2 : a0 ≥ (-1000000)
 ·rw [if_pos c2] at H
  have c2b0 : decide ((-1000000) ≤ a0) = true := decide_eq_true c2
  clear c2
  obtain rfl := Option.some.inj H
  go_enter Tryz.func116, Tryz.ntmps116
  go_wp2
  go_ret
  exact ⟨Z1, Z36⟩
 ·rw [if_neg c2] at H
  have c2b0 : decide ((-1000000) ≤ a0) = false := decide_eq_false c2
  clear c2
  obtain rfl := Option.some.inj H
  go_enter Tryz.func116, Tryz.ntmps116
  go_wp2
  go_ret
  exact ⟨Z1, Z36⟩

end Go.Proofs.YtofmlbgfcohhoaaGreatDoor.PFnExactDeskDo
