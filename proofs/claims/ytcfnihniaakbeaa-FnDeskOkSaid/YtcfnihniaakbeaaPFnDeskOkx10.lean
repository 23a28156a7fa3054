/- Lean functions of the Go functions that the law FnDeskOk reaches, each with its contract: made by a program of this session. -/
import Derived.Test.YtcfnihniaakbeaaPFnDeskOkx0
import Derived.Test.YtcfnihniaakbeaaPFnDeskOkx1
import Derived.Test.YtcfnihniaakbeaaPFnDeskOkx2
import Derived.Test.YtcfnihniaakbeaaPFnDeskOkx3
import Derived.Test.YtcfnihniaakbeaaPFnDeskOkx5
import Derived.Test.YtcfnihniaakbeaaPFnDeskOkx9
namespace Go.Proofs.Ytcfnihniaakbeaa.PFnDeskOk
open Go.RowKit Go.Proofs.YtcfnihniaakbeaaW.PrintWords Go.Proofs.YtcfnihniaakbeaaW.PrintLast Go.Proofs.YtcfnihniaakbeaaW.PrintMore
attribute [local go_sem] max2_int min2_int max_two min_two max_three min_three max_four min_four   -- for this text's walks alone
set_option linter.unusedVariables false
set_option linter.unusedSimpArgs false

attribute [local go_sem high] eqA24 eqA42
/-! ### spec_DeskDo: function 16 -/
mutual
def spec_DeskDo.j0 : Nat → Bool → Int → Int → List (S24) → Int → ByteArray → Int → Int → List (S24) → Option (Int × Int × (List (S24)) × Bool)
 | 0, _, _, _, _, _, _, _, _, _ => none
 | k + 1, x24, x257000, x257001, x257002, x258000, x258001, x266000, x266001, x266002 => if x24 = true then (if 0 ≤ (wrap64 ((x266002.length : Int) - 1)) then (if (wrap64 ((x266002.length : Int) - 1)) < (x266002.length : Int) then (if (wrap64 ((x266002.length : Int) - 1)) ≤ (x266002.length : Int) then (some ((rd_T24 x266002 (wrap64 ((x266002.length : Int) - 1))).f0, (rd_T24 x266002 (wrap64 ((x266002.length : Int) - 1))).f1, (x266002.take ((wrap64 ((x266002.length : Int) - 1)) : Int).toNat), true)) else (none)) else (none)) else (none)) else ((spec_l11Made.f k x257000 x257001 x258000 x258001).bind fun bt270 => (if bt270.2.2 = true then (spec_DeskDo.j1 k (bt270.1 == x257000 && (bt270.2.1 == x257001)) x266000 x266001 x266002 bt270.1 bt270.2.1) else (spec_DeskDo.j1 k true x266000 x266001 x266002 bt270.1 bt270.2.1)))
def spec_DeskDo.j1 : Nat → Bool → Int → Int → List (S24) → Int → Int → Option (Int × Int × (List (S24)) × Bool)
 | 0, _, _, _, _, _, _ => none
 | k + 1, x55, x266000, x266001, x266002, x274000, x274001 => if x55 = true then (some (x266000, x266001, x266002, false)) else (if x266002.length < 8796093022208 then ((some (x266002 ++ [(⟨x266000, x266001⟩ : S24)] : List (S24))).bind fun y274 => (if (y274.length : Int) > 8 then (if 1 ≤ (y274.length : Int) then (some (x274000, x274001, (y274.drop (1 : Int).toNat), true)) else (none)) else (some (x274000, x274001, y274, true)))) else (none))
end
def spec_DeskDo.f (k : Nat) (a0_0 : Int) (a0_1 : Int) (l0_2 : List (S24)) (a1_0 : Int) (a1_1 : ByteArray) : Option (Int × Int × (List (S24)) × Bool) := (spec_DeskOk.f k a0_0 a0_1 l0_2).bind fun t259 => (if t259 = true then ((spec_l11Copy.f a0_0 a0_1 l0_2).bind fun bt260 => (if (a1_0 == 4 && (a1_1.toList == ([] : List UInt8))) = true then (spec_DeskDo.j0 k (decide ((l0_2.length : Int) > 0)) a0_0 a0_1 l0_2 a1_0 a1_1 bt260.1 bt260.2.1 bt260.2.2) else (spec_DeskDo.j0 k false a0_0 a0_1 l0_2 a1_0 a1_1 bt260.1 bt260.2.1 bt260.2.2))) else (some (0, 0, ([] : List (S24)), false)))
theorem spec_DeskDo.mono_l : ∀ k, (∀ y0 y1 y2 y3 y4 y5 y6 y7 y8, LeO (spec_DeskDo.j0 k y0 y1 y2 y3 y4 y5 y6 y7 y8) (spec_DeskDo.j0 (k + 1) y0 y1 y2 y3 y4 y5 y6 y7 y8)) ∧ (∀ y0 y1 y2 y3 y4 y5, LeO (spec_DeskDo.j1 k y0 y1 y2 y3 y4 y5) (spec_DeskDo.j1 (k + 1) y0 y1 y2 y3 y4 y5))
 | 0 => ⟨fun _ _ _ _ _ _ _ _ _ r h => by simp [spec_DeskDo.j0] at h, fun _ _ _ _ _ _ r h => by simp [spec_DeskDo.j1] at h⟩
 | k + 1 => by
  obtain ⟨ih0, ih1⟩ := spec_DeskDo.mono_l k
  refine ⟨?_, ?_⟩
  ·intro y0 y1 y2 y3 y4 y5 y6 y7 y8
   unfold spec_DeskDo.j0
   repeat' first
   | (with_reducible exact ih0 _ _ _ _ _ _ _ _ _)
   | (with_reducible exact ih1 _ _ _ _ _ _)
   | (with_reducible exact spec_DeskOk.mono _ _ _ _)
   | (with_reducible exact spec_l11Made.mono _ _ _ _ _)
   | (with_reducible exact LeO.refl _)
   | (with_reducible exact LeO.none _)
   | (with_reducible refine LeO.ite ?_ ?_)
   | (with_reducible refine LeO.bind ?_ (fun _ => ?_))
  ·intro y0 y1 y2 y3 y4 y5
   unfold spec_DeskDo.j1
   repeat' first
   | (with_reducible exact ih0 _ _ _ _ _ _ _ _ _)
   | (with_reducible exact ih1 _ _ _ _ _ _)
   | (with_reducible exact spec_DeskOk.mono _ _ _ _)
   | (with_reducible exact spec_l11Made.mono _ _ _ _ _)
   | (with_reducible exact LeO.refl _)
   | (with_reducible exact LeO.none _)
   | (with_reducible refine LeO.ite ?_ ?_)
   | (with_reducible refine LeO.bind ?_ (fun _ => ?_))
theorem spec_DeskDo.mono : ∀ a0 a1 a2 a3 a4 k, LeO (spec_DeskDo.f k a0 a1 a2 a3 a4) (spec_DeskDo.f (k + 1) a0 a1 a2 a3 a4) := by
 intro a0 a1 a2 a3 a4 k
 obtain ⟨ih0, ih1⟩ := spec_DeskDo.mono_l k
 unfold spec_DeskDo.f
 repeat' first
   | (with_reducible exact ih0 _ _ _ _ _ _ _ _ _)
   | (with_reducible exact ih1 _ _ _ _ _ _)
   | (with_reducible exact spec_DeskOk.mono _ _ _ _)
   | (with_reducible exact spec_l11Made.mono _ _ _ _ _)
   | (with_reducible exact LeO.refl _)
   | (with_reducible exact LeO.none _)
   | (with_reducible refine LeO.ite ?_ ?_)
   | (with_reducible refine LeO.bind ?_ (fun _ => ?_))
set_option maxHeartbeats 8000000 in
set_option maxRecDepth 100000 in
theorem spec_DeskDo.calls (k : Nat) (a0_0 : Int) (a0_1 : Int) (A0_2 : Option Addr) (c0_2 : Nat) (l0_2 : List (S24)) (a1_0 : Int) (a1_1 : ByteArray) (r1 : Int) (r2 : Int) (r3 : List (S24)) (r4 : Bool) (w : World) (hr0_2 : Kd.C k24 w A0_2 l0_2.length l0_2) (hc0_2 : l0_2.length ≤ c0_2) (h : spec_DeskDo.f k a0_0 a0_1 l0_2 a1_0 a1_1 = some (r1, r2, r3, r4)) :
  Calls Try.prog 16 #[.agg #[.int .i64 a0_0, .int .i64 a0_1, .slice A0_2 l0_2.length c0_2], .agg #[.int .i64 a1_0, .string a1_1]] w fun e w' => ∃ v2_ : Value, e = .returned (.tuple #[.agg #[.int .i64 r1, .int .i64 r2, v2_], .bool r4]) ∧ Kd.Q k24 24 w' w.heap.size (fun _ => True) v2_ r3 ∧ Below w.heap.size w w' := by
 have hu27 := Try.underlying27
 have hu42 := Try.underlying42
 have hu24 := Try.underlying24
 have HR0_2 := Aside0.mk hr0_2
 have HC0_2 := Aside0.mk hc0_2
 clear hr0_2 hc0_2
 have HB := Aside0.mk (Below.refl w.heap.size w)
 have H : ((spec_DeskOk.f k a0_0 a0_1 l0_2).bind fun t259 => (if t259 = true then ((spec_l11Copy.f a0_0 a0_1 l0_2).bind fun bt260 => (if (a1_0 == 4 && (a1_1.toList == ([] : List UInt8))) = true then (spec_DeskDo.j0 k (decide ((l0_2.length : Int) > 0)) a0_0 a0_1 l0_2 a1_0 a1_1 bt260.1 bt260.2.1 bt260.2.2) else (spec_DeskDo.j0 k false a0_0 a0_1 l0_2 a1_0 a1_1 bt260.1 bt260.2.1 bt260.2.2))) else (some (0, 0, ([] : List (S24)), false)))) = some (r1, r2, r3, r4) := h
 clear h
 obtain ⟨t259, A3, H⟩ := sqD H
 by_cases c4 : t259 = true
 ·subst c4
  have H1 : ((spec_l11Copy.f a0_0 a0_1 l0_2).bind fun bt260 => (if (a1_0 == 4 && (a1_1.toList == ([] : List UInt8))) = true then (spec_DeskDo.j0 k (decide ((l0_2.length : Int) > 0)) a0_0 a0_1 l0_2 a1_0 a1_1 bt260.1 bt260.2.1 bt260.2.2) else (spec_DeskDo.j0 k false a0_0 a0_1 l0_2 a1_0 a1_1 bt260.1 bt260.2.1 bt260.2.2))) = some (r1, r2, r3, r4) := by rw [if_pos rfl] at H; exact H
  clear H
  have H := H1
  clear H1
  replace H := Option.bind_eq_some_iff.mp H
  obtain ⟨⟨t260, t261, t262⟩, A50, H⟩ := H
  replace H : (if (a1_0 == 4 && (a1_1.toList == ([] : List UInt8))) = true then (spec_DeskDo.j0 k (decide ((l0_2.length : Int) > 0)) a0_0 a0_1 l0_2 a1_0 a1_1 t260 t261 t262) else (spec_DeskDo.j0 k false a0_0 a0_1 l0_2 a1_0 a1_1 t260 t261 t262)) = some (r1, r2, r3, r4) := H
  have A5 := Aside0.mk A50
  clear A50
  have HC6 := Aside0.mk H
  clear H
  go_enter Try.func16, Try.ntmps16
  go_upto_region 4 with (first | ((with_reducible refine gate_dst (N := 2) rfl ?_); (try (refine gate_guard (by rfl) ?_; dsimp only)); refine sqBox (N := 2) (cs := #[.int .i64 a0_0, .int .i64 a0_1, .slice A0_2 l0_2.length c0_2]) (t := 27) ?_; intro gb256 hg w7 BK256 hb; have GW256 := Aside0.mk ((sqG hg (sqB HB))); have GE256 := GW256; replace HB := sqS (sqB HB) hb; clear hb hg) | ((with_reducible refine gate_dst (N := 3) rfl ?_); (try (refine gate_guard (by rfl) ?_; dsimp only)); refine sqBox (N := 3) (cs := #[.int .i64 a1_0, .string a1_1]) (t := 42) ?_; intro gb257 hg w8 BK257 hb; have GW257 := Aside0.mk ((sqG hg (sqB1 HB GE256))); have GE257 := GW257; replace HB := sqS (sqB1 HB GE256) hb; obtain ⟨NB256_257, NB257_256⟩ := sqM hg BK256; replace BK256 := sqT BK256 hb; clear hb hg) | ((with_reducible refine gate_dst (N := 4) rfl ?_); (try (refine gate_guard (by rfl) ?_; dsimp only)); refine sqBox (N := 4) (cs := #[.int .i64 0, .int .i64 0, .slice none 0 0]) (t := 27) ?_; intro gb258 hg w9 BK258 hb; have GW258 := Aside0.mk ((sqG hg (sqB2 HB GE256 GE257))); have GE258 := GW258; replace HB := sqS (sqB2 HB GE256 GE257) hb; obtain ⟨NB256_258, NB258_256⟩ := sqM hg BK256; replace BK256 := sqT BK256 hb; obtain ⟨NB257_258, NB258_257⟩ := sqM hg BK257; replace BK257 := sqT BK257 hb; clear hb hg; have hnb10 := NB256_257.out; have hnc10 := NB257_256.out; have hnb11 := NB256_258.out; have hnc11 := NB258_256.out; obtain ⟨hcz12_0, hcz12_1, hcz12_2, hfz12_0, hfz12_1, hfz12_2⟩ := sqY3 BK256) | ((with_reducible refine gate_callee (f := 6) rfl ?_); refine goesL_ (some 11) rfl rfl Try.func6 (by kernel_rfl) rfl #[.agg #[.int .i64 a0_0, .int .i64 a0_1, .slice A0_2 l0_2.length c0_2]] rfl sqA ?_; (with_reducible refine (spec_DeskOk.calls k a0_0 a0_1 _ _ l0_2 true _ ?side1 ?side2 A3.out).mono ?_); (case side1 => exact Z1); (case side2 => exact HC0_2.out); rintro e w13 ⟨rfl, hb⟩; refine ⟨_, rfl, ?_⟩; replace BK256 := sqT BK256 hb; replace BK257 := sqT BK257 hb; replace BK258 := sqT BK258 hb; replace HB := sqS (sqB3 HB GE256 GE257 GE258) hb; (try clear hb); obtain ⟨hcz14_0, hcz14_1, hcz14_2, hfz14_0, hfz14_1, hfz14_2⟩ := sqY3 BK256) | ((with_reducible refine gate_callee (f := 25) rfl ?_); refine goesL_ (some 15) rfl rfl Try.func25 (by kernel_rfl) rfl #[.agg #[.int .i64 a0_0, .int .i64 a0_1, .slice A0_2 l0_2.length c0_2]] rfl sqA ?_; (with_reducible refine (spec_l11Copy.calls a0_0 a0_1 _ _ l0_2 t260 t261 t262 _ ?side1 ?side2 A5.out).mono ?_); (case side1 => exact Z1); (case side2 => exact HC0_2.out); rintro e w15 ⟨v263, rfl, ho0, hb⟩; refine ⟨_, rfl, ?_⟩; have HO264 := sqL ho0 (sqB3 HB GE256 GE257 GE258); replace BK256 := sqT BK256 hb; replace BK257 := sqT BK257 hb; replace BK258 := sqT BK258 hb; replace HB := sqS (sqB3 HB GE256 GE257 GE258) hb; (try clear hb); (try clear ho0)) | ((with_reducible refine gate_dst (N := 6) rfl ?_); (try (refine gate_guard (by rfl) ?_; dsimp only)); refine sqBox (N := 6) (cs := #[.int .i64 0, .int .i64 0, .slice none 0 0]) (t := 27) ?_; intro gb265 hg w16 BK265 hb; replace HO264 := sqU HO264 hb; have GW265 := Aside0.mk ((sqG hg (sqB3 HB GE256 GE257 GE258))); have GE265 := GW265; replace HB := sqS (sqB3 HB GE256 GE257 GE258) hb; obtain ⟨NB256_265, NB265_256⟩ := sqM hg BK256; replace BK256 := sqT BK256 hb; obtain ⟨NB257_265, NB265_257⟩ := sqM hg BK257; replace BK257 := sqT BK257 hb; obtain ⟨NB258_265, NB265_258⟩ := sqM hg BK258; replace BK258 := sqT BK258 hb; clear hb hg; have hnb17 := NB265_256.out; have hnc17 := NB256_265.out; have hnb18 := NB265_257.out; have hnc18 := NB257_265.out; have hnb19 := NB265_258.out; have hnc19 := NB258_265.out; obtain ⟨hcz20_0, hcz20_1, hcz20_2, hfz20_0, hfz20_1, hfz20_2⟩ := sqY3 BK265; obtain ⟨Ao21, co21, eo21⟩ := Kd.R_slice HO264.out; subst eo21))
  (try simp only [Act.put, List.setIfInBounds_toArray, List.set_cons_zero, List.set_cons_succ])
  go_cut [24] (fun v24 wc => ∃ (kq : Nat) (x24_5 : Bool), v24 = .bool x24_5 ∧ Aside0 (spec_DeskDo.j0 kq x24_5 a0_0 a0_1 l0_2 a1_0 a1_1 t260 t261 t262 = some (r1, r2, r3, r4)) ∧ Aside0 (kq ≤ k) ∧ Aside0 (Kd.Q k24 24 wc w.heap.size (fun _ => True) (.slice Ao21 t262.length co21) t262) ∧ Aside0 (wc.heap[gb256]? = some (.cells #[.int .i64 a0_0, .int .i64 a0_1, (.slice A0_2 l0_2.length c0_2)] 27 (0, 0))) ∧ Aside0 (wc.heap[gb257]? = some (.cells #[.int .i64 a1_0, .string a1_1] 42 (0, 0))) ∧ Aside0 (wc.heap[gb258]? = some (.cells #[.int .i64 0, .int .i64 0, (.slice none 0 0)] 27 (0, 0))) ∧ Aside0 (wc.heap[gb265]? = some (.cells #[.int .i64 t260, .int .i64 t261, (.slice Ao21 t262.length co21)] 27 (0, 0))) ∧ Aside0 (Below w.heap.size w wc))
  case first =>
   have H := HC6.out
   clear HC6
   by_cases c22 : (a1_0 == 4 && (a1_1.toList == ([] : List UInt8))) = true
   ·rw [if_pos c22] at H
    have c22b0 : (a1_0 == 4 && (a1_1.toList == ([] : List UInt8))) = true := c22
    try have c22b8 : (a1_0 == 4 && a1_1.toList.isEmpty) = true := by (have h_ := c22b0; (repeat rw [show ∀ z : List UInt8, (z == ([] : List UInt8)) = z.isEmpty from fun z => by cases z <;> rfl] at h_); exact h_)
    (try (have c22b1 : decide (a1_0 = 4 && (a1_1.toList == ([] : List UInt8))) = true := by simpa using c22))
    (try (have c22b2 : (a1_0 == 4 && (a1_1.toList == ([] : List UInt8))) = true := by simpa using c22))
    clear c22
    (first | rw [c22b0] | (simp only [i64_w, i32_w]; rw [c22b0]) | skip)
    have H' := Aside0.mk H
    clear H
    have hnb23 := NB257_256.out
    have hnc23 := NB256_257.out
    have hnb24 := NB257_258.out
    have hnc24 := NB258_257.out
    have hnb25 := NB257_265.out
    have hnc25 := NB265_257.out
    obtain ⟨hcz26_0, hcz26_1, hfz26_0, hfz26_1⟩ := sqY2 BK257
    have hnb27 := NB256_258.out
    have hnc27 := NB258_256.out
    have hnb28 := NB256_265.out
    have hnc28 := NB265_256.out
    obtain ⟨hcz29_0, hcz29_1, hcz29_2, hfz29_0, hfz29_1, hfz29_2⟩ := sqY3 BK256
    go_wp2
    go_meet
    case rel => exact ⟨_, (decide ((l0_2.length : Int) > 0)), Z2, H', ⟨Z3⟩, ⟨Kd.Q_of_R (Z4 HO264 BK265)⟩, ⟨Z5 NB256_265 BK256⟩, ⟨Z5 NB257_265 BK257⟩, ⟨Z5 NB258_265 BK258⟩, ⟨Z6 BK265⟩, ⟨sqB4 HB GE256 GE257 GE258 GE265⟩⟩
   ·rw [if_neg c22] at H
    have c22b0 : (a1_0 == 4 && (a1_1.toList == ([] : List UInt8))) = false := by simpa using c22
    try have c22b8 : (a1_0 == 4 && a1_1.toList.isEmpty) = false := by (have h_ := c22b0; (repeat rw [show ∀ z : List UInt8, (z == ([] : List UInt8)) = z.isEmpty from fun z => by cases z <;> rfl] at h_); exact h_)
    (try (have c22b1 : decide (a1_0 = 4 && (a1_1.toList == ([] : List UInt8))) = false := by simpa using c22))
    (try (have c22b2 : (a1_0 == 4 && (a1_1.toList == ([] : List UInt8))) = false := by simpa using c22))
    (try (have c22b3 : ¬ (a1_0 = 4 && (a1_1.toList == ([] : List UInt8))) := by simpa using c22))
    clear c22
    (first | rw [c22b0] | (simp only [i64_w, i32_w]; rw [c22b0]) | skip)
    have H' := Aside0.mk H
    clear H
    have hnb30 := NB257_256.out
    have hnc30 := NB256_257.out
    have hnb31 := NB257_258.out
    have hnc31 := NB258_257.out
    have hnb32 := NB257_265.out
    have hnc32 := NB265_257.out
    obtain ⟨hcz33_0, hcz33_1, hfz33_0, hfz33_1⟩ := sqY2 BK257
    go_wp2
    go_meet
    case rel => exact ⟨_, (false), Z2, H', ⟨Z3⟩, ⟨Kd.Q_of_R (Z4 HO264 BK265)⟩, ⟨Z5 NB256_265 BK256⟩, ⟨Z5 NB257_265 BK257⟩, ⟨Z5 NB258_265 BK258⟩, ⟨Z6 BK265⟩, ⟨sqB4 HB GE256 GE257 GE258 GE265⟩⟩
  case rest =>
   clear HC6
   try clear c1; try clear c2; try clear p2; try clear c3; try clear c4; try clear c6; try clear c10; try clear c11; try clear c16; try clear c17; try clear c18; try clear c19; try clear c22; try clear c22b0; try clear c22b1; try clear c22b2; try clear c23; try clear c24; try clear c25; try clear c27; try clear c28; try clear c30; try clear c31; try clear c32; try clear hcz12_0; try clear hcz12_1; try clear hcz12_2; try clear hcz14_0; try clear hcz14_1; try clear hcz14_2; try clear hcz20_0; try clear hcz20_1; try clear hcz20_2; try clear hcz26_0; try clear hcz26_1; try clear hcz29_0; try clear hcz29_1; try clear hcz29_2; try clear hcz33_0; try clear hcz33_1; try clear hfz12_0; try clear hfz12_1; try clear hfz12_2; try clear hfz14_0; try clear hfz14_1; try clear hfz14_2; try clear hfz20_0; try clear hfz20_1; try clear hfz20_2; try clear hfz26_0; try clear hfz26_1; try clear hfz29_0; try clear hfz29_1; try clear hfz29_2; try clear hfz33_0; try clear hfz33_1
   obtain ⟨kq, x24_5, rfl, HA, HJ5, HO_266002, BK256, BK257, BK258, BK265, HB⟩ := hcut
   cases kq with
   | zero => exact absurd HA.out (by simp [spec_DeskDo.j0])
   | succ kj5 =>
    have H := HA.out
    clear HA
    simp only [spec_DeskDo.j0] at H
    by_cases c34 : x24_5 = true
    ·subst c34
     have H1 : (if 0 ≤ (wrap64 ((t262.length : Int) - 1)) then (if (wrap64 ((t262.length : Int) - 1)) < (t262.length : Int) then (if (wrap64 ((t262.length : Int) - 1)) ≤ (t262.length : Int) then (some ((rd_T24 t262 (wrap64 ((t262.length : Int) - 1))).f0, (rd_T24 t262 (wrap64 ((t262.length : Int) - 1))).f1, (t262.take ((wrap64 ((t262.length : Int) - 1)) : Int).toNat), true)) else (none)) else (none)) else (none)) = some (r1, r2, r3, r4) := by rw [if_pos rfl] at H; exact H
     clear H
     have H := H1
     clear H1
     obtain ⟨ji35, hji35⟩ : ∃ j_ : Int, (wrap64 ((t262.length : Int) - 1)) = j_ := ⟨_, rfl⟩
     replace H : (if 0 ≤ (ji35) then (if (ji35) < (t262.length : Int) then (if (ji35) ≤ (t262.length : Int) then (some ((rd_T24 t262 (ji35)).f0, (rd_T24 t262 (ji35)).f1, (t262.take ((ji35) : Int).toNat), true)) else (none)) else (none)) else (none)) = some (r1, r2, r3, r4) := by first | (rw [hji35] at H; exact H) | (simp only [hji35] at H ⊢; exact H)
     have hji35w : (IntKind.i64.wrap ((t262.length : Int) - 1)) = ji35 := (i64_w _).trans hji35
     by_cases c36 : 0 ≤ (ji35)
     ·rw [if_pos c36] at H
      have c36b0 : decide (0 ≤ (ji35)) = true := decide_eq_true c36
      clear c36
      by_cases c37 : (ji35) < (t262.length : Int)
      ·rw [if_pos c37] at H
       have c37b0 : decide ((ji35) < (t262.length : Int)) = true := decide_eq_true c37
       clear c37
       by_cases c38 : (ji35) ≤ (t262.length : Int)
       ·rw [if_pos c38] at H
        have c38b0 := eq_true c38
        have c38b1 : decide ((ji35) ≤ (t262.length : Int)) = true := decide_eq_true c38
        clear c38
        obtain ⟨y267, hy267⟩ : ∃ y_ : List (S24), y_ = (t262.take ((ji35) : Int).toNat) := ⟨_, rfl⟩
        replace H : (some ((rd_T24 t262 (ji35)).f0, (rd_T24 t262 (ji35)).f1, y267, true)) = some (r1, r2, r3, r4) := by first | (rw [hy267]; with_reducible exact H) | (have H2_ := (Option.bind_some _ _).symm.trans H; rw [hy267]; with_reducible exact H2_) | (have H2_ := (Option.bind_some _ _).symm.trans H; with_reducible exact H2_) | with_reducible exact H | (rw [hy267]; exact H) | exact H
        have Ny267 := Aside0.mk hy267
        clear hy267
        simp only [Option.some.injEq, Prod.mk.injEq] at H
        obtain ⟨rfl, rfl, rfl, rfl⟩ := H
        have hnb39 := NB265_256.out
        have hnc39 := NB256_265.out
        have hnb40 := NB265_257.out
        have hnc40 := NB257_265.out
        have hnb41 := NB265_258.out
        have hnc41 := NB258_265.out
        obtain ⟨hcz42_0, hcz42_1, hcz42_2, hfz42_0, hfz42_1, hfz42_2⟩ := sqY3 BK265
        have p266 : 0 ≤ ((ji35) : Int) := of_decide_eq_true Z7
        have q266 : (ji35) < (t262.length : Int) := of_decide_eq_true Z7
        obtain ⟨ad266, e266, hx266_0, hx266_1⟩ := at_T24 (Kd.Q_reads' HO_266002.out).2.2 (ji35) p266 q266
        cases e266
        replace p266 := eq_true p266
        replace q266 := eq_true q266
        go_wp2_with (first | ((with_reducible refine gate_store (t := 24) (p := 34) rfl ?_); refine store_event (t := 24) (p := 34) (v := ?vo_w43) (w1 := ((wc.setCell ⟨gb265, 0, none⟩ (.int .i64 ((rd_T24 t262 (ji35)).f0))).setCell ⟨gb265, 1, none⟩ (.int .i64 ((rd_T24 t262 (ji35)).f1)))) ?hg ?ho ?hn ?hr ?_; (case ho => rfl); (case hg => rfl); (case hn => rfl); (case hr => exact Z8); intro w43 hw; replace HO_266002 : Aside0 (Kd.Q k24 24 w43 w.heap.size (fun _ => True) (.slice (some ad266) t262.length co21) t262) := ⟨(by rw [hw]; exact (by (with_reducible repeat (first | apply Kd.Q_alloc | apply Kd.Q_drewN | apply Kd.Q_drew)); exact Kd.Q_mono (Kd.Q_far (p := ⟨gb265, 1, none⟩) (Kd.Q_far (p := ⟨gb265, 0, none⟩) (Kd.Q_types HO_266002.out BK265.out (by decide)) (fun _ hk => hk.2) (.int .i64 ((rd_T24 t262 (ji35)).f0))) (fun _ hk => hk.2) (.int .i64 ((rd_T24 t262 (ji35)).f1))) (fun _ hk => trivial)))⟩; replace BK256 : Aside0 (w43.heap[gb256]? = some (.cells #[.int .i64 a0_0, .int .i64 a0_1, .slice A0_2 l0_2.length c0_2] 27 (0, 0))) := ⟨(by rw [hw]; exact (Z9 NB256_265 BK256))⟩; replace BK257 : Aside0 (w43.heap[gb257]? = some (.cells #[.int .i64 a1_0, .string a1_1] 42 (0, 0))) := ⟨(by rw [hw]; exact (Z9 NB257_265 BK257))⟩; replace BK258 : Aside0 (w43.heap[gb258]? = some (.cells #[.int .i64 0, .int .i64 0, .slice none 0 0] 27 (0, 0))) := ⟨(by rw [hw]; exact (Z9 NB258_265 BK258))⟩; replace BK265 : Aside0 (w43.heap[gb265]? = some (.cells #[.int .i64 ((rd_T24 t262 (ji35)).f0), .int .i64 ((rd_T24 t262 (ji35)).f1), .slice (some ad266) t262.length co21] 27 (0, 0))) := ⟨(by rw [hw]; exact (by refine sqPut (cs := #[.int .i64 ((rd_T24 t262 (ji35)).f0), .int .i64 t261, .slice (some ad266) t262.length co21]) ?_ 1; refine sqPut (cs := #[.int .i64 t260, .int .i64 t261, .slice (some ad266) t262.length co21]) ?_ 0; exact sqK BK265))⟩; replace HB : Aside0 (Below w.heap.size w w43) := ⟨(by rw [hw]; exact (sqB4 HB GE256 GE257 GE258 GE265))⟩; clear hw; have hcz44_0 : w43.cell? ⟨gb265, 0, none⟩ = some (.int .i64 ((rd_T24 t262 (ji35)).f0)) := (blk_cell BK265.out 0).trans rfl; have hcz44_1 : w43.cell? ⟨gb265, 1, none⟩ = some (.int .i64 ((rd_T24 t262 (ji35)).f1)) := (blk_cell BK265.out 1).trans rfl; have hcz44_2 := sqZ BK265 2 (.slice (some ad266) t262.length co21); have hfz44_0 := blk_frozen BK265.out 0; have hfz44_1 := blk_frozen BK265.out 1; have hfz44_2 := blk_frozen BK265.out 2; have q45 : ((ji35) : Int) ≤ ((t262.length : Int) : Int) := of_decide_eq_true Z7; obtain ⟨i045, hi045, _, hsz45, _⟩ := info_parts info24; have hcut45 := cut_to (P := Try.prog) 25 24 .i64 Try.underlying25 hi045 (some ad266) t262.length co21 (ji35) (of_decide_eq_true Z7) q45 (Kd.Q_reads' HO_266002.out).2.1; have hr45 := Kd.Q_take (m := ((ji35) : Int).toNat) HO_266002.out (by omega); have hy45 : y267.length = ((ji35) : Int).toNat := (by rw [Ny267.out, List.length_take]; omega); rw [← Ny267.out] at hr45; rw [← hy45] at hr45 hcut45; clear hy45 hi045 hsz45 HO_266002; have HO269 := Aside0.mk hr45; clear hr45; replace q45 := eq_true q45; have hnb46 := NB258_256.out; have hnc46 := NB256_258.out; have hnb47 := NB258_257.out; have hnc47 := NB257_258.out; obtain ⟨hcz48_0, hcz48_1, hcz48_2, hfz48_0, hfz48_1, hfz48_2⟩ := sqY3 BK258))
        refine bodyPost_ret (results_ct rfl _ _ gb258 27 #[.int .i64 ((rd_T24 t262 (ji35)).f0), .int .i64 ((rd_T24 t262 (ji35)).f1), .slice (some ad266) y267.length co21] (0, 0) _ rfl (by refine sqPut (cs := #[.int .i64 ((rd_T24 t262 (ji35)).f0), .int .i64 ((rd_T24 t262 (ji35)).f1), .slice none 0 0]) ?_ 2; refine sqPut (cs := #[.int .i64 ((rd_T24 t262 (ji35)).f0), .int .i64 0, .slice none 0 0]) ?_ 1; refine sqPut (cs := #[.int .i64 0, .int .i64 0, .slice none 0 0]) ?_ 0; refine sqFar ?_ NB258_265; exact sqK BK258) Try.underlying27 rfl (by kernel_rfl)) rfl ?_
        exact ⟨_, by first | rfl | (simp [errW_none, errW_some] <;> rfl) | (simp only [← hji35]; first | rfl | (simp [errW_none, errW_some] <;> rfl)) | (simp [*, errW_none, errW_some] <;> rfl), (by (with_reducible repeat (first | apply Kd.Q_alloc | apply Kd.Q_drewN | apply Kd.Q_drew)); exact Kd.Q_mono (Kd.Q_far (p := ⟨gb258, 2, none⟩) (Kd.Q_far (p := ⟨gb258, 1, none⟩) (Kd.Q_far (p := ⟨gb258, 0, none⟩) (Kd.Q_far (p := ⟨gb265, 2, none⟩) (Kd.Q_types (Kd.Q_types HO269.out BK265.out (by decide)) BK258.out (by decide)) (fun _ hk => hk.1.2) (.slice (some ad266) y267.length co21)) (fun _ hk => hk.2) (.int .i64 ((rd_T24 t262 (ji35)).f0))) (fun _ hk => hk.2) (.int .i64 ((rd_T24 t262 (ji35)).f1))) (fun _ hk => hk.2) (.slice (some ad266) y267.length co21)) (fun _ hk => trivial)), sqB4 HB GE256 GE257 GE258 GE265⟩
       ·rw [if_neg c38] at H
        exact absurd H (by simp)
      ·rw [if_neg c37] at H
       exact absurd H (by simp)
     ·rw [if_neg c36] at H
      exact absurd H (by simp)
    ·replace c34 := Bool.eq_false_iff.mpr c34
     subst c34
     have H1 : ((spec_l11Made.f kj5 a0_0 a0_1 a1_0 a1_1).bind fun bt270 => (if bt270.2.2 = true then (spec_DeskDo.j1 kj5 (bt270.1 == a0_0 && (bt270.2.1 == a0_1)) t260 t261 t262 bt270.1 bt270.2.1) else (spec_DeskDo.j1 kj5 true t260 t261 t262 bt270.1 bt270.2.1))) = some (r1, r2, r3, r4) := by rw [if_neg (show ¬ (false = true) by decide)] at H; exact H
     clear H
     have H := H1
     clear H1
     replace H := Option.bind_eq_some_iff.mp H
     obtain ⟨⟨t270, t271, t272⟩, A490, H⟩ := H
     replace H : (if t272 = true then (spec_DeskDo.j1 kj5 (t270 == a0_0 && (t271 == a0_1)) t260 t261 t262 t270 t271) else (spec_DeskDo.j1 kj5 true t260 t261 t262 t270 t271)) = some (r1, r2, r3, r4) := H
     have A49 := Aside0.mk A490
     clear A490
     have HC50 := Aside0.mk H
     clear H
     have hnb51 := NB256_257.out
     have hnc51 := NB257_256.out
     have hnb52 := NB256_258.out
     have hnc52 := NB258_256.out
     have hnb53 := NB256_265.out
     have hnc53 := NB265_256.out
     obtain ⟨hcz54_0, hcz54_1, hcz54_2, hfz54_0, hfz54_1, hfz54_2⟩ := sqY3 BK256
     have hnb55 := NB257_258.out
     have hnc55 := NB258_257.out
     have hnb56 := NB257_265.out
     have hnc56 := NB265_257.out
     obtain ⟨hcz57_0, hcz57_1, hfz57_0, hfz57_1⟩ := sqY2 BK257
     go_upto_region 10 with (first | ((with_reducible refine gate_callee (f := 26) rfl ?_); refine goesL_ (some 45) rfl rfl Try.func26 (by kernel_rfl) rfl #[.agg #[.int .i64 a0_0, .int .i64 a0_1], .agg #[.int .i64 a1_0, .string a1_1]] rfl sqA ?_; (with_reducible refine (spec_l11Made.calls kj5 a0_0 a0_1 a1_0 a1_1 t270 t271 t272 _ A49.out).mono ?_); rintro e w58 ⟨rfl, hb⟩; refine ⟨_, rfl, ?_⟩; replace HO_266002 := Aside0.mk (Kd.Q_below (Z10 HO_266002) hb); replace BK256 := sqT BK256 hb; replace BK257 := sqT BK257 hb; replace BK258 := sqT BK258 hb; replace BK265 := sqT BK265 hb; replace HB := sqS (sqB4 HB GE256 GE257 GE258 GE265) hb; (try clear hb)) | ((with_reducible refine gate_dst (N := 8) rfl ?_); (try (refine gate_guard (by rfl) ?_; dsimp only)); refine sqBox (N := 8) (cs := #[.int .i64 0, .int .i64 0]) (t := 24) ?_; intro gb273 hg w59 BK273 hb; replace HO_266002 := Aside0.mk (Kd.Q_below (Kd.Q_elderB (Z10 HO_266002) gb273 (Nat.le_of_eq hg.symm)) hb); have GW273 := Aside0.mk ((sqG hg (sqB4 HB GE256 GE257 GE258 GE265))); have GE273 := GW273; replace HB := sqS (sqB4 HB GE256 GE257 GE258 GE265) hb; obtain ⟨NB256_273, NB273_256⟩ := sqM hg BK256; replace BK256 := sqT BK256 hb; obtain ⟨NB257_273, NB273_257⟩ := sqM hg BK257; replace BK257 := sqT BK257 hb; obtain ⟨NB258_273, NB273_258⟩ := sqM hg BK258; replace BK258 := sqT BK258 hb; obtain ⟨NB265_273, NB273_265⟩ := sqM hg BK265; replace BK265 := sqT BK265 hb; clear hb hg; have hnb60 := NB273_256.out; have hnc60 := NB256_273.out; have hnb61 := NB273_257.out; have hnc61 := NB257_273.out; have hnb62 := NB273_258.out; have hnc62 := NB258_273.out; have hnb63 := NB273_265.out; have hnc63 := NB265_273.out; obtain ⟨hcz64_0, hcz64_1, hfz64_0, hfz64_1⟩ := sqY2 BK273))
     (try simp only [Act.put, List.setIfInBounds_toArray, List.set_cons_zero, List.set_cons_succ])
     go_cut [55] (fun v55 wc => ∃ (kq : Nat) (x55_49 : Bool), v55 = .bool x55_49 ∧ Aside0 (spec_DeskDo.j1 kq x55_49 t260 t261 t262 t270 t271 = some (r1, r2, r3, r4)) ∧ Aside0 (kq ≤ kj5) ∧ Aside0 (Kd.Q k24 24 wc w.heap.size (fun k_ => k_ ≠ gb273) (.slice Ao21 t262.length co21) t262) ∧ Aside0 (wc.heap[gb256]? = some (.cells #[.int .i64 a0_0, .int .i64 a0_1, (.slice A0_2 l0_2.length c0_2)] 27 (0, 0))) ∧ Aside0 (wc.heap[gb257]? = some (.cells #[.int .i64 a1_0, .string a1_1] 42 (0, 0))) ∧ Aside0 (wc.heap[gb258]? = some (.cells #[.int .i64 0, .int .i64 0, (.slice none 0 0)] 27 (0, 0))) ∧ Aside0 (wc.heap[gb265]? = some (.cells #[.int .i64 t260, .int .i64 t261, (.slice Ao21 t262.length co21)] 27 (0, 0))) ∧ Aside0 (wc.heap[gb273]? = some (.cells #[.int .i64 t270, .int .i64 t271] 24 (0, 0))) ∧ Aside0 (Below w.heap.size w wc))
     case first =>
      have H := HC50.out
      clear HC50
      by_cases c65 : t272 = true
      ·subst c65
       have H1 : (spec_DeskDo.j1 kj5 (t270 == a0_0 && (t271 == a0_1)) t260 t261 t262 t270 t271) = some (r1, r2, r3, r4) := by rw [if_pos rfl] at H; exact H
       clear H
       have H := H1
       clear H1
       have H' := Aside0.mk H
       clear H
       have hnb66 := NB273_256.out
       have hnc66 := NB256_273.out
       have hnb67 := NB273_257.out
       have hnc67 := NB257_273.out
       have hnb68 := NB273_258.out
       have hnc68 := NB258_273.out
       have hnb69 := NB273_265.out
       have hnc69 := NB265_273.out
       obtain ⟨hcz70_0, hcz70_1, hfz70_0, hfz70_1⟩ := sqY2 BK273
       have hnb71 := NB256_257.out
       have hnc71 := NB257_256.out
       have hnb72 := NB256_258.out
       have hnc72 := NB258_256.out
       have hnb73 := NB256_265.out
       have hnc73 := NB265_256.out
       obtain ⟨hcz74_0, hcz74_1, hcz74_2, hfz74_0, hfz74_1, hfz74_2⟩ := sqY3 BK256
       go_wp2
       go_meet
       case rel => exact ⟨_, ((t270 == a0_0 && (t271 == a0_1))), Z2, H', ⟨by have := HJ5.out; first | omega | exact Nat.le_refl _⟩, ⟨Z11 HO_266002⟩, ⟨Z9 NB256_273 BK256⟩, ⟨Z9 NB257_273 BK257⟩, ⟨Z9 NB258_273 BK258⟩, ⟨Z9 NB265_273 BK265⟩, ⟨Z12 BK273⟩, ⟨Z13 GE256 GE257 GE258 GE265 GE273⟩⟩
      ·replace c65 := Bool.eq_false_iff.mpr c65
       subst c65
       have H1 : (spec_DeskDo.j1 kj5 true t260 t261 t262 t270 t271) = some (r1, r2, r3, r4) := by rw [if_neg (show ¬ (false = true) by decide)] at H; exact H
       clear H
       have H := H1
       clear H1
       have H' := Aside0.mk H
       clear H
       go_wp2
       go_meet
       case rel => exact ⟨_, (true), Z2, H', ⟨by have := HJ5.out; first | omega | exact Nat.le_refl _⟩, ⟨Z11 HO_266002⟩, ⟨Z9 NB256_273 BK256⟩, ⟨Z9 NB257_273 BK257⟩, ⟨Z9 NB258_273 BK258⟩, ⟨Z9 NB265_273 BK265⟩, ⟨Z12 BK273⟩, ⟨Z13 GE256 GE257 GE258 GE265 GE273⟩⟩
     case rest =>
      clear HC50
      try clear c1; try clear c2; try clear p2; try clear q2; try clear hx2; try clear c3; try clear c4; try clear q4; try clear c5; try clear c6; try clear p6; try clear c7; try clear c10; try clear c11; try clear c16; try clear c17; try clear c18; try clear c19; try clear c22; try clear c22b0; try clear c22b1; try clear c22b2; try clear c23; try clear c24; try clear c25; try clear c26; try clear p26; try clear q26; try clear hx26; try clear c27; try clear c28; try clear c30; try clear c31; try clear c32; try clear c34; try clear c36; try clear c36b0; try clear c37; try clear c37b0; try clear c38; try clear c38b0; try clear c38b1; try clear c39; try clear c40; try clear c41; try clear q45; try clear c46; try clear c47; try clear c51; try clear c52; try clear c53; try clear c55; try clear c56; try clear c60; try clear c61; try clear c62; try clear c63; try clear p64; try clear c65; try clear c66; try clear c67; try clear c68; try clear c69; try clear c71; try clear c72; try clear c73; try clear hcz12_0; try clear hcz12_1; try clear hcz12_2; try clear hcz14_0; try clear hcz14_1; try clear hcz14_2; try clear hcz20_0; try clear hcz20_1; try clear hcz20_2; try clear hcz26_0; try clear hcz26_1; try clear hcz29_0; try clear hcz29_1; try clear hcz29_2; try clear hcz33_0; try clear hcz33_1; try clear hcz42_0; try clear hcz42_1; try clear hcz42_2; try clear hcz44_0; try clear hcz44_1; try clear hcz44_2; try clear hcz48_0; try clear hcz48_1; try clear hcz48_2; try clear hcz54_0; try clear hcz54_1; try clear hcz54_2; try clear hcz57_0; try clear hcz57_1; try clear hcz64_0; try clear hcz64_1; try clear hcz70_0; try clear hcz70_1; try clear hcz74_0; try clear hcz74_1; try clear hcz74_2; try clear hfz12_0; try clear hfz12_1; try clear hfz12_2; try clear hfz14_0; try clear hfz14_1; try clear hfz14_2; try clear hfz20_0; try clear hfz20_1; try clear hfz20_2; try clear hfz26_0; try clear hfz26_1; try clear hfz29_0; try clear hfz29_1; try clear hfz29_2; try clear hfz33_0; try clear hfz33_1; try clear hfz42_0; try clear hfz42_1; try clear hfz42_2; try clear hfz44_0; try clear hfz44_1; try clear hfz44_2; try clear hfz48_0; try clear hfz48_1; try clear hfz48_2; try clear hfz54_0; try clear hfz54_1; try clear hfz54_2; try clear hfz57_0; try clear hfz57_1; try clear hfz64_0; try clear hfz64_1; try clear hfz70_0; try clear hfz70_1; try clear hfz74_0; try clear hfz74_1; try clear hfz74_2; try clear hx266_0; try clear hx266_1; try clear p2; try clear p266; try clear q266; try clear q45
      obtain ⟨kq, x55_49, rfl, HA, HJ49, HO_266002, BK256, BK257, BK258, BK265, BK273, HB⟩ := hcut
      cases kq with
      | zero => exact absurd HA.out (by simp [spec_DeskDo.j1])
      | succ kj49 =>
       have H := HA.out
       clear HA
       simp only [spec_DeskDo.j1] at H
       by_cases c75 : x55_49 = true
       ·subst c75
        have H1 : (some (t260, t261, t262, false)) = some (r1, r2, r3, r4) := by rw [if_pos rfl] at H; exact H
        clear H
        have H := H1
        clear H1
        simp only [Option.some.injEq, Prod.mk.injEq] at H
        obtain ⟨rfl, rfl, rfl, rfl⟩ := H
        have hnb76 := NB265_256.out
        have hnc76 := NB256_265.out
        have hnb77 := NB265_257.out
        have hnc77 := NB257_265.out
        have hnb78 := NB265_258.out
        have hnc78 := NB258_265.out
        have hnb79 := NB265_273.out
        have hnc79 := NB273_265.out
        obtain ⟨hcz80_0, hcz80_1, hcz80_2, hfz80_0, hfz80_1, hfz80_2⟩ := sqY3 BK265
        have hnb81 := NB258_256.out
        have hnc81 := NB256_258.out
        have hnb82 := NB258_257.out
        have hnc82 := NB257_258.out
        have hnb83 := NB258_273.out
        have hnc83 := NB273_258.out
        obtain ⟨hcz84_0, hcz84_1, hcz84_2, hfz84_0, hfz84_1, hfz84_2⟩ := sqY3 BK258
        go_wp2
        refine bodyPost_ret (results_ct rfl _ _ gb258 27 #[.int .i64 t260, .int .i64 t261, .slice Ao21 t262.length co21] (0, 0) _ rfl (Z6 BK258) Try.underlying27 rfl (by kernel_rfl)) rfl ?_
        exact ⟨_, Z14, by (with_reducible repeat (first | apply Kd.Q_alloc | apply Kd.Q_drewN | apply Kd.Q_drew)); exact Kd.Q_mono (Kd.Q_far (p := ⟨gb258, 2, none⟩) (Kd.Q_far (p := ⟨gb258, 1, none⟩) (Kd.Q_far (p := ⟨gb258, 0, none⟩) (Kd.Q_types HO_266002.out BK258.out (by decide)) (fun _ hk => hk.2) (.int .i64 t260)) (fun _ hk => hk.2) (.int .i64 t261)) (fun _ hk => hk.2) (.slice Ao21 t262.length co21)) (fun _ hk => trivial), Z13 GE256 GE257 GE258 GE265 GE273⟩
       ·replace c75 := Bool.eq_false_iff.mpr c75
        subst c75
        have H1 : (if t262.length < 8796093022208 then ((some (t262 ++ [(⟨t260, t261⟩ : S24)] : List (S24))).bind fun y274 => (if (y274.length : Int) > 8 then (if 1 ≤ (y274.length : Int) then (some (t270, t271, (y274.drop (1 : Int).toNat), true)) else (none)) else (some (t270, t271, y274, true)))) else (none)) = some (r1, r2, r3, r4) := by rw [if_neg (show ¬ (false = true) by decide)] at H; exact H
        clear H
        have H := H1
        clear H1
        by_cases c85 : t262.length < 8796093022208
        ·rw [if_pos c85] at H
         have LMc85 := Aside0.mk c85
         clear c85
         obtain ⟨y274, hy274⟩ : ∃ y_ : List (S24), y_ = (t262 ++ [(⟨t260, t261⟩ : S24)]) := ⟨_, rfl⟩
         replace H : (if (y274.length : Int) > 8 then (if 1 ≤ (y274.length : Int) then (some (t270, t271, (y274.drop (1 : Int).toNat), true)) else (none)) else (some (t270, t271, y274, true))) = some (r1, r2, r3, r4) := by first | (rw [hy274]; with_reducible exact H) | (have H2_ := (Option.bind_some _ _).symm.trans H; rw [hy274]; with_reducible exact H2_) | (have H2_ := (Option.bind_some _ _).symm.trans H; with_reducible exact H2_) | with_reducible exact H | (rw [hy274]; exact H) | exact H
         have Ny274 := Aside0.mk hy274
         clear hy274
         by_cases c86 : (y274.length : Int) > 8
         ·rw [if_pos c86] at H
          have c86b0 : decide (8 < (y274.length : Int)) = true := decide_eq_true c86
          have c86b1 : decide (8 < y274.length) = true := decide_eq_true (by omega)
          clear c86
          by_cases c87 : 1 ≤ (y274.length : Int)
          ·rw [if_pos c87] at H
           have c87b0 := eq_true c87
           have c87b1 : decide (1 ≤ (y274.length : Int)) = true := decide_eq_true c87
           clear c87
           obtain ⟨y277, hy277⟩ : ∃ y_ : List (S24), y_ = (y274.drop (1 : Int).toNat) := ⟨_, rfl⟩
           replace H : (some (t270, t271, y277, true)) = some (r1, r2, r3, r4) := by first | (rw [hy277]; with_reducible exact H) | (have H2_ := (Option.bind_some _ _).symm.trans H; rw [hy277]; with_reducible exact H2_) | (have H2_ := (Option.bind_some _ _).symm.trans H; with_reducible exact H2_) | with_reducible exact H | (rw [hy277]; exact H) | exact H
           have Ny277 := Aside0.mk hy277
           clear hy277
           simp only [Option.some.injEq, Prod.mk.injEq] at H
           obtain ⟨rfl, rfl, rfl, rfl⟩ := H
           have hnb88 := NB265_256.out
           have hnc88 := NB256_265.out
           have hnb89 := NB265_257.out
           have hnc89 := NB257_265.out
           have hnb90 := NB265_258.out
           have hnc90 := NB258_265.out
           have hnb91 := NB265_273.out
           have hnc91 := NB273_265.out
           obtain ⟨hcz92_0, hcz92_1, hcz92_2, hfz92_0, hfz92_1, hfz92_2⟩ := sqY3 BK265
           go_wp2_with (first | ((with_reducible refine gate_builtin (b := .append) (xs := #[.tmp 58, .tmp 61]) rfl ?_); (try (refine gate_guard (by rfl) ?_; dsimp only)); at_builtin; refine Kd.Q_append k24 (w0 := w) w.heap.size rfl (.tmp 58) (.tmp 61) 25 24 (.agg #[(.int .i64 0), (.int .i64 0)]) 16 rfl Try.underlying25 info24 rfl (by decide) (by omega) (.slice Ao21 t262.length co21) t262 (⟨t260, t261⟩ : S24) [.int .i64 t260, .int .i64 t261] (fun k_ => k_ ≠ gb273) (fun _ => False) rfl rfl ?aP (fun _ hk => hk.elim) ?aF ?aO ?aB ?aS ?aL ?_; (case aP => exact k24_mkM _ _ _ (⟨t260, t261⟩ : S24)); (case aB => exact (Z13 GE256 GE257 GE258 GE265 GE273)); (case aF => exact (fun k_ hk => Kd.freshB (sqK BK273) k_ hk)); (case aO => exact (Z10 HO_266002)); (case aS => exact (below_size (Z13 GE256 GE257 GE258 GE265 GE273))); (case aL => exact Z15 LMc85); intro v275 w93 ho hb hg hat; rw [← Ny274.out] at ho; replace BK256 := Aside0.mk (blk_grown (sqK BK256) hg (Kd.Q_ne HO_266002.out BK256.out (by decide))); replace BK257 := Aside0.mk (blk_grown (sqK BK257) hg (Kd.Q_ne HO_266002.out BK257.out (by decide))); replace BK258 := Aside0.mk (blk_grown (sqK BK258) hg (Kd.Q_ne HO_266002.out BK258.out (by decide))); replace BK265 := Aside0.mk (blk_grown (sqK BK265) hg (Kd.Q_ne HO_266002.out BK265.out (by decide))); replace BK273 := Aside0.mk (blk_grown (sqK BK273) hg (Kd.Q_away HO_266002.out (fun _ hk => hk))); replace HB := Aside0.mk (hb); have HO276 := Aside0.mk (ho); clear HO_266002; clear ho hb hg hat; obtain ⟨Ao94, co94, eo94, _⟩ := Kd.Q_slice HO276.out; subst eo94; obtain ⟨hcz95_0, hcz95_1, hcz95_2, hfz95_0, hfz95_1, hfz95_2⟩ := sqY3 BK265) | ((with_reducible refine gate_store (t := 25) (p := 63) rfl ?_); refine store_event (t := 25) (p := 63) (v := ?vo_w96) (w1 := (w93.setCell ⟨gb265, 2, none⟩ (.slice Ao94 y274.length co94))) ?hg ?ho ?hn ?hr ?_; (case ho => rfl); (case hg => rfl); (case hn => rfl); (case hr => exact Z8); intro w96 hw; replace HO276 : Aside0 (Kd.Q k24 24 w96 w.heap.size (fun k_ => k_ ≠ gb273) (.slice Ao94 y274.length co94) y274) := ⟨(by rw [hw]; exact (by (with_reducible repeat (first | apply Kd.Q_alloc | apply Kd.Q_drewN | apply Kd.Q_drew)); exact Kd.Q_mono (Kd.Q_far (p := ⟨gb265, 2, none⟩) (Kd.Q_types HO276.out BK265.out (by decide)) (fun _ hk => hk.2) (.slice Ao94 y274.length co94)) (fun _ hk => hk.1)))⟩; replace BK256 : Aside0 (w96.heap[gb256]? = some (.cells #[.int .i64 a0_0, .int .i64 a0_1, .slice A0_2 l0_2.length c0_2] 27 (0, 0))) := ⟨(by rw [hw]; exact (by refine sqFar ?_ NB256_265; exact sqK BK256))⟩; replace BK257 : Aside0 (w96.heap[gb257]? = some (.cells #[.int .i64 a1_0, .string a1_1] 42 (0, 0))) := ⟨(by rw [hw]; exact (by refine sqFar ?_ NB257_265; exact sqK BK257))⟩; replace BK258 : Aside0 (w96.heap[gb258]? = some (.cells #[.int .i64 0, .int .i64 0, .slice none 0 0] 27 (0, 0))) := ⟨(by rw [hw]; exact (by refine sqFar ?_ NB258_265; exact sqK BK258))⟩; replace BK265 : Aside0 (w96.heap[gb265]? = some (.cells #[.int .i64 t260, .int .i64 t261, .slice Ao94 y274.length co94] 27 (0, 0))) := ⟨(by rw [hw]; exact (by refine sqPut (cs := #[.int .i64 t260, .int .i64 t261, .slice Ao21 t262.length co21]) ?_ 2; exact sqK BK265))⟩; replace BK273 : Aside0 (w96.heap[gb273]? = some (.cells #[.int .i64 t270, .int .i64 t271] 24 (0, 0))) := ⟨(by rw [hw]; exact (by refine sqFar ?_ NB273_265; exact sqK BK273))⟩; replace HB : Aside0 (Below w.heap.size w w96) := ⟨(by rw [hw]; exact (Z13 GE256 GE257 GE258 GE265 GE273))⟩; clear hw; obtain ⟨hcz97_0, hcz97_1, hcz97_2, hfz97_0, hfz97_1, hfz97_2⟩ := sqY3 BK265; have q98 : (1 : Int) ≤ ((y274.length : Int) : Int) := of_decide_eq_true Z7; obtain ⟨i098, hi098, _, hsz98, _⟩ := info_parts info24; have hcut98 := cut_from (P := Try.prog) 25 24 .i64 Try.underlying25 hi098 2 hsz98 Ao94 y274.length co94 1 (by omega) q98; have hr98 := Kd.Q_drop (k := (1 : Int).toNat) HO276.out (by omega); obtain ⟨A98, hA98⟩ : ∃ A1, A1 = (if co94 = (1 : Int).toNat then Ao94 else (Ao94 : Option Addr).map (·.add ((1 : Int).toNat * 2))) := ⟨_, rfl⟩; obtain ⟨c98, hc98⟩ : ∃ c1, c1 = co94 - (1 : Int).toNat := ⟨_, rfl⟩; have hy98 : y277.length = y274.length - (1 : Int).toNat := (by rw [Ny277.out, List.length_drop]); rw [← Ny277.out] at hr98; rw [← hy98, ← hA98, ← hc98] at hcut98; replace hr98 : Kd.Q k24 24 w96 w.heap.size (fun k_ => k_ ≠ gb273) (.slice A98 y277.length c98) y277 := (by rw [hA98, hc98, hy98]; exact hr98); have HE98 : Aside0 ((Value.slice A98 y277.length c98).ownBlock = (.slice Ao94 y274.length co94 : Value).ownBlock) := ⟨by rw [hA98]; split <;> (cases (Ao94 : Option Addr) <;> rfl)⟩; clear hy98 hi098 hsz98 HO276 hA98 hc98; have HO279 := Aside0.mk hr98; clear hr98; replace q98 := eq_true q98; have hnb99 := NB273_256.out; have hnc99 := NB256_273.out; have hnb100 := NB273_257.out; have hnc100 := NB257_273.out; have hnb101 := NB273_258.out; have hnc101 := NB258_273.out; obtain ⟨hcz102_0, hcz102_1, hfz102_0, hfz102_1⟩ := sqY2 BK273; have hnb103 := NB258_256.out; have hnc103 := NB256_258.out; have hnb104 := NB258_257.out; have hnc104 := NB257_258.out; obtain ⟨hcz105_0, hcz105_1, hcz105_2, hfz105_0, hfz105_1, hfz105_2⟩ := sqY3 BK258))
           refine bodyPost_ret (results_ct rfl _ _ gb258 27 #[.int .i64 t270, .int .i64 t271, .slice A98 y277.length c98] (0, 0) _ rfl (Z16 NB258_265 BK258) Try.underlying27 rfl (by kernel_rfl)) rfl ?_
           exact ⟨_, Z14, by (with_reducible repeat (first | apply Kd.Q_alloc | apply Kd.Q_drewN | apply Kd.Q_drew)); exact Kd.Q_mono (Kd.Q_far (p := ⟨gb258, 2, none⟩) (Kd.Q_far (p := ⟨gb258, 1, none⟩) (Kd.Q_far (p := ⟨gb258, 0, none⟩) (Kd.Q_far (p := ⟨gb265, 1, none⟩) (Kd.Q_far (p := ⟨gb265, 0, none⟩) (Kd.Q_far (p := ⟨gb265, 2, none⟩) (Kd.Q_types (Kd.Q_types HO279.out BK265.out (by decide)) BK258.out (by decide)) (fun _ hk => hk.1.2) (.slice A98 y277.length c98)) (fun _ hk => hk.1.2) (.int .i64 t270)) (fun _ hk => hk.1.2) (.int .i64 t271)) (fun _ hk => hk.2) (.int .i64 t270)) (fun _ hk => hk.2) (.int .i64 t271)) (fun _ hk => hk.2) (.slice A98 y277.length c98)) (fun _ hk => trivial), Z13 GE256 GE257 GE258 GE265 GE273⟩
          ·rw [if_neg c87] at H
           exact absurd H (by simp)
         ·rw [if_neg c86] at H
          have c86b0 : decide (8 < (y274.length : Int)) = false := decide_eq_false c86
          have c86b1 : decide (8 < y274.length) = false := decide_eq_false (by omega)
          clear c86
          simp only [Option.some.injEq, Prod.mk.injEq] at H
          obtain ⟨rfl, rfl, rfl, rfl⟩ := H
          have hnb106 := NB265_256.out
          have hnc106 := NB256_265.out
          have hnb107 := NB265_257.out
          have hnc107 := NB257_265.out
          have hnb108 := NB265_258.out
          have hnc108 := NB258_265.out
          have hnb109 := NB265_273.out
          have hnc109 := NB273_265.out
          obtain ⟨hcz110_0, hcz110_1, hcz110_2, hfz110_0, hfz110_1, hfz110_2⟩ := sqY3 BK265
          go_wp2_with (first | ((with_reducible refine gate_builtin (b := .append) (xs := #[.tmp 58, .tmp 61]) rfl ?_); (try (refine gate_guard (by rfl) ?_; dsimp only)); at_builtin; refine Kd.Q_append k24 (w0 := w) w.heap.size rfl (.tmp 58) (.tmp 61) 25 24 (.agg #[(.int .i64 0), (.int .i64 0)]) 16 rfl Try.underlying25 info24 rfl (by decide) (by omega) (.slice Ao21 t262.length co21) t262 (⟨t260, t261⟩ : S24) [.int .i64 t260, .int .i64 t261] (fun k_ => k_ ≠ gb273) (fun _ => False) rfl rfl ?aP (fun _ hk => hk.elim) ?aF ?aO ?aB ?aS ?aL ?_; (case aP => exact k24_mkM _ _ _ (⟨t260, t261⟩ : S24)); (case aB => exact (Z13 GE256 GE257 GE258 GE265 GE273)); (case aF => exact (fun k_ hk => Kd.freshB (sqK BK273) k_ hk)); (case aO => exact (Z10 HO_266002)); (case aS => exact (below_size (Z13 GE256 GE257 GE258 GE265 GE273))); (case aL => exact Z15 LMc85); intro v275 w111 ho hb hg hat; rw [← Ny274.out] at ho; replace BK256 := Aside0.mk (blk_grown (sqK BK256) hg (Kd.Q_ne HO_266002.out BK256.out (by decide))); replace BK257 := Aside0.mk (blk_grown (sqK BK257) hg (Kd.Q_ne HO_266002.out BK257.out (by decide))); replace BK258 := Aside0.mk (blk_grown (sqK BK258) hg (Kd.Q_ne HO_266002.out BK258.out (by decide))); replace BK265 := Aside0.mk (blk_grown (sqK BK265) hg (Kd.Q_ne HO_266002.out BK265.out (by decide))); replace BK273 := Aside0.mk (blk_grown (sqK BK273) hg (Kd.Q_away HO_266002.out (fun _ hk => hk))); replace HB := Aside0.mk (hb); have HO276 := Aside0.mk (ho); clear HO_266002; clear ho hb hg hat; obtain ⟨Ao112, co112, eo112, _⟩ := Kd.Q_slice HO276.out; subst eo112; obtain ⟨hcz113_0, hcz113_1, hcz113_2, hfz113_0, hfz113_1, hfz113_2⟩ := sqY3 BK265; have hnb114 := NB273_256.out; have hnc114 := NB256_273.out; have hnb115 := NB273_257.out; have hnc115 := NB257_273.out; have hnb116 := NB273_258.out; have hnc116 := NB258_273.out; obtain ⟨hcz117_0, hcz117_1, hfz117_0, hfz117_1⟩ := sqY2 BK273; have hnb118 := NB258_256.out; have hnc118 := NB256_258.out; have hnb119 := NB258_257.out; have hnc119 := NB257_258.out; obtain ⟨hcz120_0, hcz120_1, hcz120_2, hfz120_0, hfz120_1, hfz120_2⟩ := sqY3 BK258))
          refine bodyPost_ret (results_ct rfl _ _ gb258 27 #[.int .i64 t270, .int .i64 t271, .slice Ao112 y274.length co112] (0, 0) _ rfl (Z16 NB258_265 BK258) Try.underlying27 rfl (by kernel_rfl)) rfl ?_
          exact ⟨_, Z14, by (with_reducible repeat (first | apply Kd.Q_alloc | apply Kd.Q_drewN | apply Kd.Q_drew)); exact Kd.Q_mono (Kd.Q_far (p := ⟨gb258, 2, none⟩) (Kd.Q_far (p := ⟨gb258, 1, none⟩) (Kd.Q_far (p := ⟨gb258, 0, none⟩) (Kd.Q_far (p := ⟨gb265, 1, none⟩) (Kd.Q_far (p := ⟨gb265, 0, none⟩) (Kd.Q_far (p := ⟨gb265, 2, none⟩) (Kd.Q_types (Kd.Q_types HO276.out BK265.out (by decide)) BK258.out (by decide)) (fun _ hk => hk.1.2) (.slice Ao112 y274.length co112)) (fun _ hk => hk.1.2) (.int .i64 t270)) (fun _ hk => hk.1.2) (.int .i64 t271)) (fun _ hk => hk.2) (.int .i64 t270)) (fun _ hk => hk.2) (.int .i64 t271)) (fun _ hk => hk.2) (.slice Ao112 y274.length co112)) (fun _ hk => trivial), Z13 GE256 GE257 GE258 GE265 GE273⟩
        ·rw [if_neg c85] at H
         exact absurd H (by simp)
 ·replace c4 := Bool.eq_false_iff.mpr c4
  subst c4
  have H1 : (some (0, 0, ([] : List (S24)), false)) = some (r1, r2, r3, r4) := by rw [if_neg (show ¬ (false = true) by decide)] at H; exact H
  clear H
  have H := H1
  clear H1
  simp only [Option.some.injEq, Prod.mk.injEq] at H
  obtain ⟨rfl, rfl, rfl, rfl⟩ := H
  go_enter Try.func16, Try.ntmps16
  go_wp2_with (first | ((with_reducible refine gate_dst (N := 2) rfl ?_); (try (refine gate_guard (by rfl) ?_; dsimp only)); refine sqBox (N := 2) (cs := #[.int .i64 a0_0, .int .i64 a0_1, .slice A0_2 l0_2.length c0_2]) (t := 27) ?_; intro gb256 hg w121 BK256 hb; have GW256 := Aside0.mk ((sqG hg (sqB HB))); have GE256 := GW256; replace HB := sqS (sqB HB) hb; clear hb hg) | ((with_reducible refine gate_dst (N := 3) rfl ?_); (try (refine gate_guard (by rfl) ?_; dsimp only)); refine sqBox (N := 3) (cs := #[.int .i64 a1_0, .string a1_1]) (t := 42) ?_; intro gb257 hg w122 BK257 hb; have GW257 := Aside0.mk ((sqG hg (sqB1 HB GE256))); have GE257 := GW257; replace HB := sqS (sqB1 HB GE256) hb; obtain ⟨NB256_257, NB257_256⟩ := sqM hg BK256; replace BK256 := sqT BK256 hb; clear hb hg) | ((with_reducible refine gate_dst (N := 4) rfl ?_); (try (refine gate_guard (by rfl) ?_; dsimp only)); refine sqBox (N := 4) (cs := #[.int .i64 0, .int .i64 0, .slice none 0 0]) (t := 27) ?_; intro gb258 hg w123 BK258 hb; have GW258 := Aside0.mk ((sqG hg (sqB2 HB GE256 GE257))); have GE258 := GW258; replace HB := sqS (sqB2 HB GE256 GE257) hb; obtain ⟨NB256_258, NB258_256⟩ := sqM hg BK256; replace BK256 := sqT BK256 hb; obtain ⟨NB257_258, NB258_257⟩ := sqM hg BK257; replace BK257 := sqT BK257 hb; clear hb hg; have hnb124 := NB256_257.out; have hnc124 := NB257_256.out; have hnb125 := NB256_258.out; have hnc125 := NB258_256.out; obtain ⟨hcz126_0, hcz126_1, hcz126_2, hfz126_0, hfz126_1, hfz126_2⟩ := sqY3 BK256) | ((with_reducible refine gate_callee (f := 6) rfl ?_); refine goesL_ (some 11) rfl rfl Try.func6 (by kernel_rfl) rfl #[.agg #[.int .i64 a0_0, .int .i64 a0_1, .slice A0_2 l0_2.length c0_2]] rfl sqA ?_; (with_reducible refine (spec_DeskOk.calls k a0_0 a0_1 _ _ l0_2 false _ ?side1 ?side2 A3.out).mono ?_); (case side1 => exact Z1); (case side2 => exact HC0_2.out); rintro e w127 ⟨rfl, hb⟩; refine ⟨_, rfl, ?_⟩; replace BK256 := sqT BK256 hb; replace BK257 := sqT BK257 hb; replace BK258 := sqT BK258 hb; replace HB := sqS (sqB3 HB GE256 GE257 GE258) hb; (try clear hb); have hnb128 := NB258_257.out; have hnc128 := NB257_258.out; obtain ⟨hcz129_0, hcz129_1, hcz129_2, hfz129_0, hfz129_1, hfz129_2⟩ := sqY3 BK258))
  refine bodyPost_ret (results_ct rfl _ _ gb258 27 #[.int .i64 0, .int .i64 0, .slice none 0 0] (0, 0) _ rfl (Z17 BK258) Try.underlying27 rfl (by kernel_rfl)) rfl ?_
  exact ⟨_, Z14, Kd.Q_of_R Z18, sqB3 HB GE256 GE257 GE258⟩

/-! ### spec_l20Dance: function 27 -/
def spec_l20Dance.l0 : Nat → Int → ByteArray → Int → List Int → Int → Option (ByteArray × Int)
 | 0, _, _, _, _, _ => none
 | k + 1, x2, x7, x8, x1000, x1001 => if x8 > 0 then ((some (([(⟨#[84]⟩ : ByteArray), (⟨#[84]⟩ : ByteArray), (⟨#[82]⟩ : ByteArray), (⟨#[116]⟩ : ByteArray), (⟨#[82]⟩ : ByteArray), (⟨#[84]⟩ : ByteArray)] : List ByteArray) : List ByteArray)).bind fun y282 => ((spec_l20Rd_pick.f k x1000 x1001 6).bind fun bt285 => (if 0 ≤ bt285.1 then (if bt285.1 < (y282.length : Int) then (if x7.size + (rdOf ByteArray.empty y282 bt285.1).size ≤ 9223372036854775807 then (spec_l20Dance.l0 k x2 (x7 ++ (rdOf ByteArray.empty y282 bt285.1)) (wrap64 (x8 - 1)) x1000 bt285.2) else (none)) else (none)) else (none)))) else ((spec_l20Rd_odd.f k x1000 x1001 x2).bind fun bt288 => (if bt288.1 = true then ((some (([(⟨#[120]⟩ : ByteArray), (⟨#[114]⟩ : ByteArray), (⟨#[84, 84, 84, 84, 84, 84, 84, 84, 84, 84, 84, 84, 84, 84, 84, 84, 84, 84, 84, 84, 84, 84, 84, 84, 84, 84, 84, 84, 84, 84, 84, 84, 84, 84, 84, 84, 84, 84, 84, 84, 84]⟩ : ByteArray)] : List ByteArray) : List ByteArray)).bind fun y290 => ((spec_l20Rd_pick.f k x1000 bt288.2 3).bind fun bt293 => (if 0 ≤ bt293.1 then (if bt293.1 < (y290.length : Int) then (if x7.size + (rdOf ByteArray.empty y290 bt293.1).size ≤ 9223372036854775807 then (some (x7 ++ (rdOf ByteArray.empty y290 bt293.1), bt293.2)) else (none)) else (none)) else (none)))) else (some (x7, bt288.2))))
def spec_l20Dance.f (k : Nat) (s0_0 : List Int) (s0_1 : Int) (a1 : Int) (a2 : Int) : Option (ByteArray × Int) := (spec_l20Rd_pick.f k s0_0 s0_1 (wrap64 (a1 + 1))).bind fun bt280 => (spec_l20Dance.l0 k a2 (⟨#[]⟩ : ByteArray) bt280.1 s0_0 bt280.2)
theorem spec_l20Dance.mono_l : ∀ k, (∀ y0 y1 y2 y3 y4, LeO (spec_l20Dance.l0 k y0 y1 y2 y3 y4) (spec_l20Dance.l0 (k + 1) y0 y1 y2 y3 y4))
 | 0 => fun _ _ _ _ _ r h => by simp [spec_l20Dance.l0] at h
 | k + 1 => by
  have ih0 := spec_l20Dance.mono_l k
  ·intro y0 y1 y2 y3 y4
   unfold spec_l20Dance.l0
   repeat' first
   | (with_reducible exact ih0 _ _ _ _ _)
   | (with_reducible exact spec_l20Rd_odd.mono _ _ _ _)
   | (with_reducible exact spec_l20Rd_pick.mono _ _ _ _)
   | (with_reducible exact LeO.refl _)
   | (with_reducible exact LeO.none _)
   | (with_reducible refine LeO.ite ?_ ?_)
   | (with_reducible refine LeO.bind ?_ (fun _ => ?_))
theorem spec_l20Dance.mono : ∀ a0 a1 a2 a3 k, LeO (spec_l20Dance.f k a0 a1 a2 a3) (spec_l20Dance.f (k + 1) a0 a1 a2 a3) := by
 intro a0 a1 a2 a3 k
 have ih0 := spec_l20Dance.mono_l k
 unfold spec_l20Dance.f
 repeat' first
   | (with_reducible exact ih0 _ _ _ _ _)
   | (with_reducible exact spec_l20Rd_odd.mono _ _ _ _)
   | (with_reducible exact spec_l20Rd_pick.mono _ _ _ _)
   | (with_reducible exact LeO.refl _)
   | (with_reducible exact LeO.none _)
   | (with_reducible refine LeO.ite ?_ ?_)
   | (with_reducible refine LeO.bind ?_ (fun _ => ?_))
set_option maxHeartbeats 8000000 in
set_option maxRecDepth 100000 in
theorem spec_l20Dance.calls (k : Nat) (g : Nat) (s0_0 : List Int) (s0_1 : Int) (a1 : Int) (a2 : Int) (r1 : ByteArray) (r2 : Int) (w0 w : World) (hI : IsS46 w0 w g s0_0 s0_1) (hB : Below w0.heap.size w0 w) (h : spec_l20Dance.f k s0_0 s0_1 a1 a2 = some (r1, r2)) :
  Calls Try.prog 27 #[.pointer (some ⟨g, 0, none⟩), .int .i64 a1, .int .i64 a2] w fun e w' => e = .returned (.string r1) ∧ IsS46 w0 w' g s0_0 r2 ∧ Below w0.heap.size w0 w' ∧ KeepBut w w' g none := by
 have HI0 := Aside0.mk hI
 have HK := Aside0.mk (KeepBut.refl w g none)
 have HL := Aside0.mk hB.size
 clear hI
 have HW0 := Aside0.mk hB.size
 have HB := Aside0.mk hB
 clear hB
 have H : ((spec_l20Rd_pick.f k s0_0 s0_1 (wrap64 (a1 + 1))).bind fun bt280 => (spec_l20Dance.l0 k a2 (⟨#[]⟩ : ByteArray) bt280.1 s0_0 bt280.2)) = some (r1, r2) := h
 clear h
 replace H := Option.bind_eq_some_iff.mp H
 obtain ⟨⟨t280, t281⟩, A40, H⟩ := H
 replace H : (spec_l20Dance.l0 k a2 (⟨#[]⟩ : ByteArray) t280 s0_0 t281) = some (r1, r2) := H
 have A4 := Aside0.mk A40
 clear A40
 have H' := Aside0.mk H
 clear H
 go_enter Try.func27, Try.ntmps27
 go_wp2_with (first | ((with_reducible refine gate_callee (f := 15) rfl ?_); refine goesL_ (some 12) rfl rfl Try.func15 (by kernel_rfl) rfl #[.pointer (some ⟨g, 0, none⟩), .int .i64 (wrap64 (a1 + 1))] rfl sqA ?_; (with_reducible refine (spec_l20Rd_pick.calls k g s0_0 s0_1 (wrap64 (a1 + 1)) t280 t281 w0 _ ?side1 ?side2 A4.out).mono ?_); (case side1 => exact Z19 HI0); (case side2 => exact Z20 HI0); rintro e w5 ⟨rfl, hi, hb, hk⟩; refine ⟨_, rfl, ?_⟩; replace HK := Aside0.mk (KeepBut.trans Z21 hk (.inl rfl)); replace HB := Aside0.mk (hb); replace HI0 := Aside0.mk (hi); (try clear hb)))
 go_loopg [7, 8] k (fun kq v7 v8 w' => ∃ (x7_1 : ByteArray) (x8_1 : Int) (x1001_1 : Int), v7 = .string x7_1 ∧ v8 = .int .i64 x8_1 ∧ Aside0 (spec_l20Dance.l0 kq a2 x7_1 x8_1 s0_0 x1001_1 = some (r1, r2)) ∧ Aside0 (kq ≤ k) ∧ Aside0 (IsS46 w0 w' g s0_0 x1001_1) ∧ Aside0 (KeepBut w w' g none) ∧ Aside0 (Below w0.heap.size w0 w'))
 case atStart => exact ⟨((⟨#[]⟩ : ByteArray)), (t280), (t281), Z2, Z2, H', ⟨Nat.le_refl _⟩, ⟨Z19 HI0⟩, ⟨Z21⟩, ⟨Z20 HI0⟩⟩
 case round =>
  clear H'
  try clear c1; try clear c2; try clear p2
  obtain ⟨x7_1, x8_1, x1001_1, rfl, rfl, HA, HK1, HI0, HK, HB⟩ := hrel
  cases gk with
  | zero => exact absurd HA.out (by simp [spec_l20Dance.l0])
  | succ k1 =>
   have H := HA.out
   clear HA
   simp only [spec_l20Dance.l0] at H
   by_cases c6 : x8_1 > 0
   ·rw [if_pos c6] at H
    have c6b0 : decide (0 < x8_1) = true := decide_eq_true c6
    clear c6
    obtain ⟨y282, hy282⟩ : ∃ y_ : List ByteArray, y_ = (([(⟨#[84]⟩ : ByteArray), (⟨#[84]⟩ : ByteArray), (⟨#[82]⟩ : ByteArray), (⟨#[116]⟩ : ByteArray), (⟨#[82]⟩ : ByteArray), (⟨#[84]⟩ : ByteArray)] : List ByteArray)) := ⟨_, rfl⟩
    replace H : ((spec_l20Rd_pick.f k1 s0_0 x1001_1 6).bind fun bt285 => (if 0 ≤ bt285.1 then (if bt285.1 < (y282.length : Int) then (if x7_1.size + (rdOf ByteArray.empty y282 bt285.1).size ≤ 9223372036854775807 then (spec_l20Dance.l0 k1 a2 (x7_1 ++ (rdOf ByteArray.empty y282 bt285.1)) (wrap64 (x8_1 - 1)) s0_0 bt285.2) else (none)) else (none)) else (none))) = some (r1, r2) := by first | (rw [hy282]; with_reducible exact H) | (have H2_ := (Option.bind_some _ _).symm.trans H; rw [hy282]; with_reducible exact H2_) | (have H2_ := (Option.bind_some _ _).symm.trans H; with_reducible exact H2_) | with_reducible exact H | (rw [hy282]; exact H) | exact H
    have Ny282 := Aside0.mk hy282
    clear hy282
    replace H := Option.bind_eq_some_iff.mp H
    obtain ⟨⟨t285, t286⟩, A70, H⟩ := H
    replace H : (if 0 ≤ t285 then (if t285 < (y282.length : Int) then (if x7_1.size + (rdOf ByteArray.empty y282 t285).size ≤ 9223372036854775807 then (spec_l20Dance.l0 k1 a2 (x7_1 ++ (rdOf ByteArray.empty y282 t285)) (wrap64 (x8_1 - 1)) s0_0 t286) else (none)) else (none)) else (none)) = some (r1, r2) := H
    have A7 := Aside0.mk A70
    clear A70
    by_cases c8 : 0 ≤ t285
    ·rw [if_pos c8] at H
     have c8b0 : decide (0 ≤ t285) = true := decide_eq_true c8
     clear c8
     by_cases c9 : t285 < (y282.length : Int)
     ·rw [if_pos c9] at H
      have c9b0 : decide (t285 < (y282.length : Int)) = true := decide_eq_true c9
      clear c9
      by_cases c10 : x7_1.size + (rdOf ByteArray.empty y282 t285).size ≤ 9223372036854775807
      ·rw [if_pos c10] at H
       have c10b0 := eq_true c10
       have c10b1 : decide (x7_1.size + (rdOf ByteArray.empty y282 t285).size ≤ 9223372036854775807) = true := decide_eq_true c10
       try have c10b2 : (9223372036854775807 < x7_1.size + (rdOf ByteArray.empty y282 t285).size) = False := eq_false (Nat.not_lt.2 c10)
       have H' := Aside0.mk H
       clear H
       go_wp2_with (first | ((with_reducible refine gate_dst (N := 18) rfl ?_); refine Kd.R_lit Kd.string _ 9 ?hg (N := 18) ?hd (xs := ([(⟨#[84]⟩ : ByteArray), (⟨#[84]⟩ : ByteArray), (⟨#[82]⟩ : ByteArray), (⟨#[116]⟩ : ByteArray), (⟨#[82]⟩ : ByteArray), (⟨#[84]⟩ : ByteArray)] : List ByteArray)) (inner := [.string (⟨#[84]⟩ : ByteArray), .string (⟨#[84]⟩ : ByteArray), .string (⟨#[82]⟩ : ByteArray), .string (⟨#[116]⟩ : ByteArray), .string (⟨#[82]⟩ : ByteArray), .string (⟨#[84]⟩ : ByteArray)]) (ok := fun _ => True) (okp := fun _ => True) ?hr ?hp (fun _ hk => hk) trivial (Below.refl _ _) (Nat.le_refl _) (by simp) ?_; (case hd => rfl); (case hg => rfl); (case hr => exact Z8); (case hp => exact (Reps.one (show Kd.M Kd.string _ _ _ (⟨#[84]⟩ : ByteArray) [.string (⟨#[84]⟩ : ByteArray)] from rfl) (Reps.one (show Kd.M Kd.string _ _ _ (⟨#[84]⟩ : ByteArray) [.string (⟨#[84]⟩ : ByteArray)] from rfl) (Reps.one (show Kd.M Kd.string _ _ _ (⟨#[82]⟩ : ByteArray) [.string (⟨#[82]⟩ : ByteArray)] from rfl) (Reps.one (show Kd.M Kd.string _ _ _ (⟨#[116]⟩ : ByteArray) [.string (⟨#[116]⟩ : ByteArray)] from rfl) (Reps.one (show Kd.M Kd.string _ _ _ (⟨#[82]⟩ : ByteArray) [.string (⟨#[82]⟩ : ByteArray)] from rfl) (Reps.one (show Kd.M Kd.string _ _ _ (⟨#[84]⟩ : ByteArray) [.string (⟨#[84]⟩ : ByteArray)] from rfl) (Reps.none _ _)))))))); intro v283 w11 ho12 hb hg_ hnew_; clear hg_ hnew_; (first | rw [← Ny282.out] at ho12 | (simp only [Int.reduceToNat] at ho12; rw [← Ny282.out] at ho12)); have HO284 := Aside0.mk (Kd.R_lower ho12 (keep_size (w := w) (g := g) (row := none) Z21)); replace HK := Aside0.mk (KeepBut.trans Z21 (KeepBut.of_below hb g none) (.inl rfl)); replace HB := Aside0.mk (below_step (Z20 HI0) hb); replace HI0 := Aside0.mk (IsS46.below (Z19 HI0) hb); clear hb ho12) | ((with_reducible refine gate_callee (f := 15) rfl ?_); refine goesL_ (some 20) rfl rfl Try.func15 (by kernel_rfl) rfl #[.pointer (some ⟨g, 0, none⟩), .int .i64 6] rfl sqA ?_; (with_reducible refine (spec_l20Rd_pick.calls k1 g s0_0 x1001_1 6 t285 t286 w0 _ ?side1 ?side2 A7.out).mono ?_); (case side1 => exact Z19 HI0); (case side2 => exact Z20 HI0); rintro e w13 ⟨rfl, hi, hb, hk⟩; refine ⟨_, rfl, ?_⟩; replace HO284 := Aside0.mk (Kd.R_mono (Kd.R_keep (IsS46.apart (show IsS46 w0 _ g s0_0 x1001_1 from by repeat (first | (with_reducible first | exact HI0.out | apply IsS46.alloc | apply IsS46.drewN | apply IsS46.drew | apply IsS46.set_1) | exact HI0.out)) (sqR HO284) (by decide)) hk (fun _ h => h.2)) (fun _ h => h.1)); replace HK := Aside0.mk (KeepBut.trans Z21 hk (.inl rfl)); replace HB := Aside0.mk (hb); replace HI0 := Aside0.mk (hi); (try clear hb); obtain ⟨Ao14, co14, eo14⟩ := Kd.R_slice HO284.out; subst eo14; have p287 : 0 ≤ (t285 : Int) := of_decide_eq_true Z7; have q287 : t285 < (y282.length : Int) := of_decide_eq_true Z7; obtain ⟨ad287, e287, hx287_0⟩ := Kd.at_string (Kd.R_reads' HO284.out).2.2 t285 p287 q287; cases e287; replace p287 := eq_true p287; replace q287 := eq_true q287))
       go_roundg k1
       case measure => have := HK1.out; omega
       case rel => exact ⟨(x7_1 ++ (rdOf ByteArray.empty y282 t285)), (wrap64 (x8_1 - 1)), (t286), Z2, Z2, H', ⟨Z15 HK1⟩, ⟨Z19 HI0⟩, ⟨Z21⟩, ⟨Z20 HI0⟩⟩
      ·rw [if_neg c10] at H
       exact absurd H (by simp)
     ·rw [if_neg c9] at H
      exact absurd H (by simp)
    ·rw [if_neg c8] at H
     exact absurd H (by simp)
   ·rw [if_neg c6] at H
    have c6b0 : decide (0 < x8_1) = false := decide_eq_false c6
    clear c6
    replace H := Option.bind_eq_some_iff.mp H
    obtain ⟨⟨t288, t289⟩, A150, H⟩ := H
    replace H : (if t288 = true then ((some (([(⟨#[120]⟩ : ByteArray), (⟨#[114]⟩ : ByteArray), (⟨#[84, 84, 84, 84, 84, 84, 84, 84, 84, 84, 84, 84, 84, 84, 84, 84, 84, 84, 84, 84, 84, 84, 84, 84, 84, 84, 84, 84, 84, 84, 84, 84, 84, 84, 84, 84, 84, 84, 84, 84, 84]⟩ : ByteArray)] : List ByteArray) : List ByteArray)).bind fun y290 => ((spec_l20Rd_pick.f k1 s0_0 t289 3).bind fun bt293 => (if 0 ≤ bt293.1 then (if bt293.1 < (y290.length : Int) then (if x7_1.size + (rdOf ByteArray.empty y290 bt293.1).size ≤ 9223372036854775807 then (some (x7_1 ++ (rdOf ByteArray.empty y290 bt293.1), bt293.2)) else (none)) else (none)) else (none)))) else (some (x7_1, t289))) = some (r1, r2) := H
    have A15 := Aside0.mk A150
    clear A150
    by_cases c16 : t288 = true
    ·subst c16
     have H1 : ((some (([(⟨#[120]⟩ : ByteArray), (⟨#[114]⟩ : ByteArray), (⟨#[84, 84, 84, 84, 84, 84, 84, 84, 84, 84, 84, 84, 84, 84, 84, 84, 84, 84, 84, 84, 84, 84, 84, 84, 84, 84, 84, 84, 84, 84, 84, 84, 84, 84, 84, 84, 84, 84, 84, 84, 84]⟩ : ByteArray)] : List ByteArray) : List ByteArray)).bind fun y290 => ((spec_l20Rd_pick.f k1 s0_0 t289 3).bind fun bt293 => (if 0 ≤ bt293.1 then (if bt293.1 < (y290.length : Int) then (if x7_1.size + (rdOf ByteArray.empty y290 bt293.1).size ≤ 9223372036854775807 then (some (x7_1 ++ (rdOf ByteArray.empty y290 bt293.1), bt293.2)) else (none)) else (none)) else (none)))) = some (r1, r2) := by rw [if_pos rfl] at H; exact H
     clear H
     have H := H1
     clear H1
     obtain ⟨y290, hy290⟩ : ∃ y_ : List ByteArray, y_ = (([(⟨#[120]⟩ : ByteArray), (⟨#[114]⟩ : ByteArray), (⟨#[84, 84, 84, 84, 84, 84, 84, 84, 84, 84, 84, 84, 84, 84, 84, 84, 84, 84, 84, 84, 84, 84, 84, 84, 84, 84, 84, 84, 84, 84, 84, 84, 84, 84, 84, 84, 84, 84, 84, 84, 84]⟩ : ByteArray)] : List ByteArray)) := ⟨_, rfl⟩
     replace H : ((spec_l20Rd_pick.f k1 s0_0 t289 3).bind fun bt293 => (if 0 ≤ bt293.1 then (if bt293.1 < (y290.length : Int) then (if x7_1.size + (rdOf ByteArray.empty y290 bt293.1).size ≤ 9223372036854775807 then (some (x7_1 ++ (rdOf ByteArray.empty y290 bt293.1), bt293.2)) else (none)) else (none)) else (none))) = some (r1, r2) := by first | (rw [hy290]; with_reducible exact H) | (have H2_ := (Option.bind_some _ _).symm.trans H; rw [hy290]; with_reducible exact H2_) | (have H2_ := (Option.bind_some _ _).symm.trans H; with_reducible exact H2_) | with_reducible exact H | (rw [hy290]; exact H) | exact H
     have Ny290 := Aside0.mk hy290
     clear hy290
     replace H := Option.bind_eq_some_iff.mp H
     obtain ⟨⟨t293, t294⟩, A170, H⟩ := H
     replace H : (if 0 ≤ t293 then (if t293 < (y290.length : Int) then (if x7_1.size + (rdOf ByteArray.empty y290 t293).size ≤ 9223372036854775807 then (some (x7_1 ++ (rdOf ByteArray.empty y290 t293), t294)) else (none)) else (none)) else (none)) = some (r1, r2) := H
     have A17 := Aside0.mk A170
     clear A170
     by_cases c18 : 0 ≤ t293
     ·rw [if_pos c18] at H
      have c18b0 : decide (0 ≤ t293) = true := decide_eq_true c18
      clear c18
      by_cases c19 : t293 < (y290.length : Int)
      ·rw [if_pos c19] at H
       have c19b0 : decide (t293 < (y290.length : Int)) = true := decide_eq_true c19
       clear c19
       by_cases c20 : x7_1.size + (rdOf ByteArray.empty y290 t293).size ≤ 9223372036854775807
       ·rw [if_pos c20] at H
        have c20b0 := eq_true c20
        have c20b1 : decide (x7_1.size + (rdOf ByteArray.empty y290 t293).size ≤ 9223372036854775807) = true := decide_eq_true c20
        try have c20b2 : (9223372036854775807 < x7_1.size + (rdOf ByteArray.empty y290 t293).size) = False := eq_false (Nat.not_lt.2 c20)
        simp only [Option.some.injEq, Prod.mk.injEq] at H
        obtain ⟨rfl, rfl⟩ := H
        go_wp2_with (first | ((with_reducible refine gate_callee (f := 18) rfl ?_); refine goesL_ (some 26) rfl rfl Try.func18 (by kernel_rfl) rfl #[.pointer (some ⟨g, 0, none⟩), .int .i64 a2] rfl sqA ?_; (with_reducible refine (spec_l20Rd_odd.calls k1 g s0_0 x1001_1 a2 true t289 w0 _ ?side1 ?side2 A15.out).mono ?_); (case side1 => exact Z19 HI0); (case side2 => exact Z20 HI0); rintro e w21 ⟨rfl, hi, hb, hk⟩; refine ⟨_, rfl, ?_⟩; replace HK := Aside0.mk (KeepBut.trans Z21 hk (.inl rfl)); replace HB := Aside0.mk (hb); replace HI0 := Aside0.mk (hi); (try clear hb)) | ((with_reducible refine gate_dst (N := 28) rfl ?_); refine Kd.R_lit Kd.string _ 9 ?hg (N := 28) ?hd (xs := ([(⟨#[120]⟩ : ByteArray), (⟨#[114]⟩ : ByteArray), (⟨#[84, 84, 84, 84, 84, 84, 84, 84, 84, 84, 84, 84, 84, 84, 84, 84, 84, 84, 84, 84, 84, 84, 84, 84, 84, 84, 84, 84, 84, 84, 84, 84, 84, 84, 84, 84, 84, 84, 84, 84, 84]⟩ : ByteArray)] : List ByteArray)) (inner := [.string (⟨#[120]⟩ : ByteArray), .string (⟨#[114]⟩ : ByteArray), .string (⟨#[84, 84, 84, 84, 84, 84, 84, 84, 84, 84, 84, 84, 84, 84, 84, 84, 84, 84, 84, 84, 84, 84, 84, 84, 84, 84, 84, 84, 84, 84, 84, 84, 84, 84, 84, 84, 84, 84, 84, 84, 84]⟩ : ByteArray)]) (ok := fun _ => True) (okp := fun _ => True) ?hr ?hp (fun _ hk => hk) trivial (Below.refl _ _) (Nat.le_refl _) (by simp) ?_; (case hd => rfl); (case hg => rfl); (case hr => exact Z8); (case hp => exact (Reps.one (show Kd.M Kd.string _ _ _ (⟨#[120]⟩ : ByteArray) [.string (⟨#[120]⟩ : ByteArray)] from rfl) (Reps.one (show Kd.M Kd.string _ _ _ (⟨#[114]⟩ : ByteArray) [.string (⟨#[114]⟩ : ByteArray)] from rfl) (Reps.one (show Kd.M Kd.string _ _ _ (⟨#[84, 84, 84, 84, 84, 84, 84, 84, 84, 84, 84, 84, 84, 84, 84, 84, 84, 84, 84, 84, 84, 84, 84, 84, 84, 84, 84, 84, 84, 84, 84, 84, 84, 84, 84, 84, 84, 84, 84, 84, 84]⟩ : ByteArray) [.string (⟨#[84, 84, 84, 84, 84, 84, 84, 84, 84, 84, 84, 84, 84, 84, 84, 84, 84, 84, 84, 84, 84, 84, 84, 84, 84, 84, 84, 84, 84, 84, 84, 84, 84, 84, 84, 84, 84, 84, 84, 84, 84]⟩ : ByteArray)] from rfl) (Reps.none _ _))))); intro v291 w22 ho23 hb hg_ hnew_; clear hg_ hnew_; (first | rw [← Ny290.out] at ho23 | (simp only [Int.reduceToNat] at ho23; rw [← Ny290.out] at ho23)); have HO292 := Aside0.mk (Kd.R_lower ho23 (keep_size (w := w) (g := g) (row := none) Z21)); replace HK := Aside0.mk (KeepBut.trans Z21 (KeepBut.of_below hb g none) (.inl rfl)); replace HB := Aside0.mk (below_step (Z20 HI0) hb); replace HI0 := Aside0.mk (IsS46.below (Z19 HI0) hb); clear hb ho23) | ((with_reducible refine gate_callee (f := 15) rfl ?_); refine goesL_ (some 30) rfl rfl Try.func15 (by kernel_rfl) rfl #[.pointer (some ⟨g, 0, none⟩), .int .i64 3] rfl sqA ?_; (with_reducible refine (spec_l20Rd_pick.calls k1 g s0_0 t289 3 t293 t294 w0 _ ?side1 ?side2 A17.out).mono ?_); (case side1 => exact Z19 HI0); (case side2 => exact Z20 HI0); rintro e w24 ⟨rfl, hi, hb, hk⟩; refine ⟨_, rfl, ?_⟩; replace HO292 := Aside0.mk (Kd.R_mono (Kd.R_keep (IsS46.apart (show IsS46 w0 _ g s0_0 t289 from by repeat (first | (with_reducible first | exact HI0.out | apply IsS46.alloc | apply IsS46.drewN | apply IsS46.drew | apply IsS46.set_1) | exact HI0.out)) (sqR HO292) (by decide)) hk (fun _ h => h.2)) (fun _ h => h.1)); replace HK := Aside0.mk (KeepBut.trans Z21 hk (.inl rfl)); replace HB := Aside0.mk (hb); replace HI0 := Aside0.mk (hi); (try clear hb); obtain ⟨Ao25, co25, eo25⟩ := Kd.R_slice HO292.out; subst eo25; have p295 : 0 ≤ (t293 : Int) := of_decide_eq_true Z7; have q295 : t293 < (y290.length : Int) := of_decide_eq_true Z7; obtain ⟨ad295, e295, hx295_0⟩ := Kd.at_string (Kd.R_reads' HO292.out).2.2 t293 p295 q295; cases e295; replace p295 := eq_true p295; replace q295 := eq_true q295))
        go_ret
        exact ⟨Z14, Z19 HI0, Z20 HI0, Z21⟩
       ·rw [if_neg c20] at H
        exact absurd H (by simp)
      ·rw [if_neg c19] at H
       exact absurd H (by simp)
     ·rw [if_neg c18] at H
      exact absurd H (by simp)
    ·replace c16 := Bool.eq_false_iff.mpr c16
     subst c16
     have H1 : (some (x7_1, t289)) = some (r1, r2) := by rw [if_neg (show ¬ (false = true) by decide)] at H; exact H
     clear H
     have H := H1
     clear H1
     simp only [Option.some.injEq, Prod.mk.injEq] at H
     obtain ⟨rfl, rfl⟩ := H
     go_wp2_with (first | ((with_reducible refine gate_callee (f := 18) rfl ?_); refine goesL_ (some 26) rfl rfl Try.func18 (by kernel_rfl) rfl #[.pointer (some ⟨g, 0, none⟩), .int .i64 a2] rfl sqA ?_; (with_reducible refine (spec_l20Rd_odd.calls k1 g s0_0 x1001_1 a2 false t289 w0 _ ?side1 ?side2 A15.out).mono ?_); (case side1 => exact Z19 HI0); (case side2 => exact Z20 HI0); rintro e w26 ⟨rfl, hi, hb, hk⟩; refine ⟨_, rfl, ?_⟩; replace HK := Aside0.mk (KeepBut.trans Z21 hk (.inl rfl)); replace HB := Aside0.mk (hb); replace HI0 := Aside0.mk (hi); (try clear hb)))
     go_ret
     exact ⟨Z14, Z19 HI0, Z20 HI0, Z21⟩

end Go.Proofs.Ytcfnihniaakbeaa.PFnDeskOk
