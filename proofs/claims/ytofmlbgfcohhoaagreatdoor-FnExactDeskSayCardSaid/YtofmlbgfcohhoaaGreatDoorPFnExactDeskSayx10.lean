import Derived.Test.YtofmlbgfcohhoaaGreatDoorPFnExactDeskSayx1
import Derived.Test.YtofmlbgfcohhoaaGreatDoorPFnExactDeskSayx9
set_option maxHeartbeats 8000000
set_option maxRecDepth 100000
namespace Go.Proofs.YtofmlbgfcohhoaaGreatDoor.PFnExactDeskSay
open Go.RowKit Go.Proofs.YtofmlbgfcohhoaaGreatDoorW.PrintWords Go.Proofs.YtofmlbgfcohhoaaGreatDoorW.PrintLast Go.Proofs.YtofmlbgfcohhoaaGreatDoorW.PrintMore Go.Proofs.YtofmlbgfcohhoaaGreatDoor.Lib Go.Proofs.Tryz
attribute [local go_sem] max2_int min2_int max_two min_two max_three min_three max_four min_four   -- for this text's walks alone
set_option linter.unusedVariables false
set_option linter.unusedSimpArgs false

attribute [local go_sem high] eqA31 eqA38
/-! ### spec_DeskDo: function 14 -/
mutual
def spec_DeskDo.j0 : Nat → Bool → Int → Int → List (S31) → Int → ByteArray → Int → Int → List (S31) → Option (Int × Int × (List (S31)) × Bool)
 | 0, _, _, _, _, _, _, _, _, _ => none
 | k + 1, x24, x0, x1, x2, x3, x4, x5, x6, x7 => if x24 = true then (if 0 ≤ (wrap64 ((x7.length : Int) - 1)) then (if (wrap64 ((x7.length : Int) - 1)) < (x7.length : Int) then (if (wrap64 ((x7.length : Int) - 1)) ≤ (x7.length : Int) then (some ((rd_T31 x7 (wrap64 ((x7.length : Int) - 1))).f0, (rd_T31 x7 (wrap64 ((x7.length : Int) - 1))).f1, (x7.take ((wrap64 ((x7.length : Int) - 1)) : Int).toNat), true)) else (none)) else (none)) else (none)) else ((spec_l11Made.f k x0 x1 x3 x4).bind fun bt0 => (if bt0.2.2 = true then (spec_DeskDo.j1 k (bt0.1 == x0 && (bt0.2.1 == x1)) x5 x6 x7 bt0.1 bt0.2.1) else (spec_DeskDo.j1 k true x5 x6 x7 bt0.1 bt0.2.1)))
def spec_DeskDo.j1 : Nat → Bool → Int → Int → List (S31) → Int → Int → Option (Int × Int × (List (S31)) × Bool)
 | 0, _, _, _, _, _, _ => none
 | k + 1, x55, x0, x1, x2, x3, x4 => if x55 = true then (some (x0, x1, x2, false)) else (if x2.length < 8796093022208 then ((some (x2 ++ [(⟨x0, x1⟩ : S31)] : List (S31))).bind fun y0 => (if (y0.length : Int) > 8 then (if 1 ≤ (y0.length : Int) then (some (x3, x4, (y0.drop (1 : Int).toNat), true)) else (none)) else (some (x3, x4, y0, true)))) else (none))
end
def spec_DeskDo.f (k : Nat) (a0_0 : Int) (a0_1 : Int) (l0_2 : List (S31)) (a1_0 : Int) (a1_1 : ByteArray) : Option (Int × Int × (List (S31)) × Bool) := (spec_DeskOk.f k a0_0 a0_1 l0_2).bind fun t0 => (if t0 = true then ((spec_l11Copy.f a0_0 a0_1 l0_2).bind fun bt0 => (if (a1_0 == 4 && (a1_1.toList == ([] : List UInt8))) = true then (spec_DeskDo.j0 k (decide ((l0_2.length : Int) > 0)) a0_0 a0_1 l0_2 a1_0 a1_1 bt0.1 bt0.2.1 bt0.2.2) else (spec_DeskDo.j0 k false a0_0 a0_1 l0_2 a1_0 a1_1 bt0.1 bt0.2.1 bt0.2.2))) else (some (0, 0, ([] : List (S31)), false)))
abbrev spec_DeskDo.M (k : Nat) : Prop := (∀ y0 y1 y2 y3 y4 y5 y6 y7 y8, LeO (spec_DeskDo.j0 k y0 y1 y2 y3 y4 y5 y6 y7 y8) (spec_DeskDo.j0 (k + 1) y0 y1 y2 y3 y4 y5 y6 y7 y8)) ∧ (∀ y0 y1 y2 y3 y4 y5, LeO (spec_DeskDo.j1 k y0 y1 y2 y3 y4 y5) (spec_DeskDo.j1 (k + 1) y0 y1 y2 y3 y4 y5))
theorem spec_DeskDo.mono_t : ∀ k, spec_DeskDo.M k → spec_DeskDo.M (k + 1) ∧ ∀ a0 a1 a2 a3 a4, LeO (spec_DeskDo.f k a0 a1 a2 a3 a4) (spec_DeskDo.f (k + 1) a0 a1 a2 a3 a4) := by
  rintro k ⟨ih0, ih1⟩
  refine ⟨⟨?_, ?_⟩, ?_⟩ <;> intros <;> (first | unfold spec_DeskDo.j0 | unfold spec_DeskDo.j1 | unfold spec_DeskDo.f) <;> repeat' (with_reducible first | exact ih0 _ _ _ _ _ _ _ _ _ | exact ih1 _ _ _ _ _ _ | exact spec_DeskOk.mono _ _ _ _ | exact spec_l11Made.mono _ _ _ _ _ | exact LeO.refl _ | exact LeO.none _ | refine LeO.ite ?_ ?_ | refine LeO.bind ?_ fun _ => ?_)
theorem spec_DeskDo.mono_l : ∀ k, spec_DeskDo.M k
 | 0 => ⟨fun _ _ _ _ _ _ _ _ _ r h => by simp [spec_DeskDo.j0] at h, fun _ _ _ _ _ _ r h => by simp [spec_DeskDo.j1] at h⟩
 | k + 1 => (spec_DeskDo.mono_t k (spec_DeskDo.mono_l k)).1
theorem spec_DeskDo.mono a0 a1 a2 a3 a4 k : LeO (spec_DeskDo.f k a0 a1 a2 a3 a4) (spec_DeskDo.f (k + 1) a0 a1 a2 a3 a4) := (spec_DeskDo.mono_t k (spec_DeskDo.mono_l k)).2 a0 a1 a2 a3 a4
theorem spec_DeskDo.calls (k : Nat) (a0_0 : Int) (a0_1 : Int) (A0_2 : Option Addr) (c0_2 : Nat) (l0_2 : List (S31)) (a1_0 : Int) (a1_1 : ByteArray) (r1 : Int) (r2 : Int) (r3 : List (S31)) (r4 : Bool) (w : World) (hr0_2 : Kd.C k31 w A0_2 l0_2.length l0_2) (hc0_2 : l0_2.length ≤ c0_2) (H : spec_DeskDo.f k a0_0 a0_1 l0_2 a1_0 a1_1 = some (r1, r2, r3, r4)) :
  Calls prog 14 #[.agg #[.int .i64 a0_0, .int .i64 a0_1, .slice A0_2 l0_2.length c0_2], .agg #[.int .i64 a1_0, .string a1_1]] w fun e w' => ∃ v2_ : Value, e = .returned (.tuple #[.agg #[.int .i64 r1, .int .i64 r2, v2_], .bool r4]) ∧ Kd.Q k31 31 w' w.heap.size (fun _ => True) v2_ r3 ∧ Below w.heap.size w w' := by
 have hu34 := underlying34
 have hu38 := underlying38
 have hu31 := underlying31
 have HR0_2 := sqa hr0_2
 have HC0_2 := sqa hc0_2
 clear hr0_2 hc0_2
 have HB := sqh w
 unfold spec_DeskDo.f at H
 obtain ⟨t0, A3, H⟩ := sqD H
 by_cases c4 : t0 = true
 ·subst c4
  rw [if_pos rfl] at H
  obtain ⟨⟨t266, t267, t1⟩, A5, H⟩ := sqD H
  try dsimp only at H
  have HC6 := sqa H
  clear H
  go_enter func14, ntmps14
  go_upto_region 4 with (first | ((with_reducible refine sqd 2 rfl ?_); (try (refine gate_guard (by rfl) ?_; dsimp only)); refine sqBx w (sqB HB) (cs := #[.int .i64 a0_0, .int .i64 a0_1, .slice A0_2 l0_2.length c0_2]) (t := 34) ?_; intro g0 hg w7 B0 E0 HB hb; clear hb hg) | ((with_reducible refine sqd 3 rfl ?_); (try (refine gate_guard (by rfl) ?_; dsimp only)); refine sqBx w (sqB1 HB E0) (cs := #[.int .i64 a1_0, .string a1_1]) (t := 38) ?_; intro g1 hg w8 B2 E1 HB hb; obtain ⟨N0, N1⟩ := sqM hg B0; replace B0 := sqT B0 hb; clear hb hg) | ((with_reducible refine sqd 4 rfl ?_); (try (refine gate_guard (by rfl) ?_; dsimp only)); refine sqBx w (sqB2 HB E0 E1) (cs := #[.int .i64 0, .int .i64 0, .slice none 0 0]) (t := 34) ?_; intro g2 hg w9 B9 E2 HB hb; obtain ⟨N2, N3⟩ := sqM hg B0; replace B0 := sqT B0 hb; obtain ⟨N4, N5⟩ := sqM hg B2; replace B2 := sqT B2 hb; clear hb hg; have := N0.1; have := N1.1; have := N2.1; have := N3.1; obtain ⟨_, _, _, _, _, _⟩ := sqY3 B0) | ((with_reducible refine sqc 30 rfl ?_); refine sqC (some 11) func30 #[.agg #[.int .i64 a0_0, .int .i64 a0_1, .slice A0_2 l0_2.length c0_2]] ?_; (with_reducible refine (spec_DeskOk.calls k a0_0 a0_1 _ _ l0_2 true _ ?side1 ?side2 A3.1).mono ?_); (case side1 => exact Z2); (case side2 => exact Z3); refine sqV fun w13 hb => ?_; replace B0 := sqT B0 hb; replace B2 := sqT B2 hb; replace B9 := sqT B9 hb; replace HB := sqS (sqB3 HB E0 E1 E2) hb; (try clear hb); obtain ⟨_, _, _, _, _, _⟩ := sqY3 B0) | ((with_reducible refine sqc 56 rfl ?_); refine sqC (some 15) func56 #[.agg #[.int .i64 a0_0, .int .i64 a0_1, .slice A0_2 l0_2.length c0_2]] ?_; (with_reducible refine (spec_l11Copy.calls a0_0 a0_1 _ _ l0_2 t266 t267 t1 _ ?side1 ?side2 A5.1).mono ?_); (case side1 => exact Z2); (case side2 => exact Z3); rintro e w15 ⟨v0, rfl, ho0, hb⟩; refine ⟨_, rfl, ?_⟩; have O0 := sqL ho0 (sqB3 HB E0 E1 E2); replace B0 := sqT B0 hb; replace B2 := sqT B2 hb; replace B9 := sqT B9 hb; replace HB := sqS (sqB3 HB E0 E1 E2) hb; (try clear hb); (try clear ho0)) | ((with_reducible refine sqd 6 rfl ?_); (try (refine gate_guard (by rfl) ?_; dsimp only)); refine sqBx w (sqB3 HB E0 E1 E2) (cs := #[.int .i64 0, .int .i64 0, .slice none 0 0]) (t := 34) ?_; intro g3 hg w16 B10 E3 HB hb; replace O0 := sqU O0 hb; obtain ⟨N6, N7⟩ := sqM hg B0; replace B0 := sqT B0 hb; obtain ⟨N8, N9⟩ := sqM hg B2; replace B2 := sqT B2 hb; obtain ⟨N10, N11⟩ := sqM hg B9; replace B9 := sqT B9 hb; clear hb hg; have := N7.1; have := N6.1; have := N9.1; have := N8.1; have := N11.1; have := N10.1; obtain ⟨_, _, _, _, _, _⟩ := sqY3 B10; obtain ⟨Ao21, co21, eo21⟩ := Kd.R_slice O0.1; subst eo21))
  (try simp only [Act.put, List.setIfInBounds_toArray, List.set_cons_zero, List.set_cons_succ])
  go_cut [24] (fun v24 wc => ∃ (kq : Nat) (x24_5 : Bool), v24 = .bool x24_5 ∧ Aside0 (spec_DeskDo.j0 kq x24_5 a0_0 a0_1 l0_2 a1_0 a1_1 t266 t267 t1 = some (r1, r2, r3, r4)) ∧ Aside0 (kq ≤ k) ∧ Aside0 (Kd.Q k31 31 wc w.heap.size (fun _ => True) (.slice Ao21 t1.length co21) t1) ∧ Aside0 (wc.heap[g0]? = some (.cells #[.int .i64 a0_0, .int .i64 a0_1, (.slice A0_2 l0_2.length c0_2)] 34 (0, 0))) ∧ Aside0 (wc.heap[g1]? = some (.cells #[.int .i64 a1_0, .string a1_1] 38 (0, 0))) ∧ Aside0 (wc.heap[g2]? = some (.cells #[.int .i64 0, .int .i64 0, (.slice none 0 0)] 34 (0, 0))) ∧ Aside0 (wc.heap[g3]? = some (.cells #[.int .i64 t266, .int .i64 t267, (.slice Ao21 t1.length co21)] 34 (0, 0))) ∧ Aside0 (Below w.heap.size w wc))
  case first =>
   have H := HC6.1
   clear HC6
   by_cases c22 : (a1_0 == 4 && (a1_1.toList == ([] : List UInt8))) = true
   ·rw [if_pos c22] at H
    have c22b0 : (a1_0 == 4 && (a1_1.toList == ([] : List UInt8))) = true := c22
    try have c22b8 : (a1_0 == 4 && a1_1.toList.isEmpty) = true := by (have h_ := c22b0; (repeat rw [show ∀ z : List UInt8, (z == ([] : List UInt8)) = z.isEmpty from fun z => by cases z <;> rfl] at h_); exact h_)
    (try (have c22b1 : decide (a1_0 = 4 && (a1_1.toList == ([] : List UInt8))) = true := by simpa using c22))
    (try (have c22b2 : (a1_0 == 4 && (a1_1.toList == ([] : List UInt8))) = true := by simpa using c22))
    clear c22
    (first | rw [c22b0] | (simp only [i64_w, i32_w]; rw [c22b0]) | skip)
    have H' := sqa H
    clear H
    have := N1.1
    have := N0.1
    have := N4.1
    have := N5.1
    have := N8.1
    have := N9.1
    obtain ⟨_, _, _, _⟩ := sqY2 B2
    have := N2.1
    have := N3.1
    have := N6.1
    have := N7.1
    obtain ⟨_, _, _, _, _, _⟩ := sqY3 B0
    go_wp2
    go_meet
    case rel => exact ⟨_, (decide ((l0_2.length : Int) > 0)), Z4, H', ⟨Z5⟩, ⟨Kd.Q_of_R (Z6 O0 B10)⟩, ⟨Z7 N6 B0⟩, ⟨Z7 N8 B2⟩, ⟨Z7 N10 B9⟩, ⟨Z8 B10⟩, ⟨sqB4 HB E0 E1 E2 E3⟩⟩
   rw [if_neg c22] at H
   have c22b0 : (a1_0 == 4 && (a1_1.toList == ([] : List UInt8))) = false := by simpa using c22
   try have c22b8 : (a1_0 == 4 && a1_1.toList.isEmpty) = false := by (have h_ := c22b0; (repeat rw [show ∀ z : List UInt8, (z == ([] : List UInt8)) = z.isEmpty from fun z => by cases z <;> rfl] at h_); exact h_)
   (try (have c22b1 : decide (a1_0 = 4 && (a1_1.toList == ([] : List UInt8))) = false := by simpa using c22))
   (try (have c22b2 : (a1_0 == 4 && (a1_1.toList == ([] : List UInt8))) = false := by simpa using c22))
   (try (have c22b3 : ¬ (a1_0 = 4 && (a1_1.toList == ([] : List UInt8))) := by simpa using c22))
   clear c22
   (first | rw [c22b0] | (simp only [i64_w, i32_w]; rw [c22b0]) | skip)
   have H' := sqa H
   clear H
   have := N1.1
   have := N0.1
   have := N4.1
   have := N5.1
   have := N8.1
   have := N9.1
   obtain ⟨_, _, _, _⟩ := sqY2 B2
   go_wp2
   go_meet
   case rel => exact ⟨_, (false), Z4, H', ⟨Z5⟩, ⟨Kd.Q_of_R (Z6 O0 B10)⟩, ⟨Z7 N6 B0⟩, ⟨Z7 N8 B2⟩, ⟨Z7 N10 B9⟩, ⟨Z8 B10⟩, ⟨sqB4 HB E0 E1 E2 E3⟩⟩
  case rest =>
   clear HC6
   obtain ⟨kq, x24_5, rfl, HA, HJ5, O1, B0, B2, B9, B10, HB⟩ := hcut
   cases kq with
   | zero => exact absurd HA.out (by simp [spec_DeskDo.j0])
   | succ kj5 =>
    have H := HA.out
    clear HA
    simp only [spec_DeskDo.j0] at H
    by_cases c34 : x24_5 = true
    ·subst c34
     rw [if_pos rfl] at H
     obtain ⟨ji35, hji35⟩ : ∃ j_ : Int, (wrap64 ((t1.length : Int) - 1)) = j_ := ⟨_, rfl⟩
     replace H : (if 0 ≤ (ji35) then (if (ji35) < (t1.length : Int) then (if (ji35) ≤ (t1.length : Int) then (some ((rd_T31 t1 (ji35)).f0, (rd_T31 t1 (ji35)).f1, (t1.take ((ji35) : Int).toNat), true)) else (none)) else (none)) else (none)) = some (r1, r2, r3, r4) := by first | (rw [hji35] at H; exact H) | (simp only [hji35] at H ⊢; exact H)
     have hji35w : (IntKind.i64.wrap ((t1.length : Int) - 1)) = ji35 := (i64_w _).trans hji35
     obtain ⟨c36, H⟩ := sqI H
     have c36b0 : decide (0 ≤ (ji35)) = true := decide_eq_true c36
     clear c36
     obtain ⟨c37, H⟩ := sqI H
     have c37b0 : decide ((ji35) < (t1.length : Int)) = true := decide_eq_true c37
     clear c37
     obtain ⟨c38, H⟩ := sqI H
     have c38b0 := eq_true c38
     have c38b1 : decide ((ji35) ≤ (t1.length : Int)) = true := decide_eq_true c38
     clear c38
     obtain ⟨y0, hy0⟩ : ∃ y_ : List (S31), y_ = (t1.take ((ji35) : Int).toNat) := ⟨_, rfl⟩
     replace H : (some ((rd_T31 t1 (ji35)).f0, (rd_T31 t1 (ji35)).f1, y0, true)) = some (r1, r2, r3, r4) := sqW hy0 H
     have Ny0 := sqa hy0
     clear hy0
     obtain ⟨rfl, rfl, rfl, rfl⟩ := sqO4 H
     have := N7.1
     have := N6.1
     have := N9.1
     have := N8.1
     have := N11.1
     have := N10.1
     obtain ⟨_, _, _, _, _, _⟩ := sqY3 B10
     have p0 : 0 ≤ ((ji35) : Int) := of_decide_eq_true Z9
     have q0 : (ji35) < (t1.length : Int) := of_decide_eq_true Z9
     obtain ⟨ad0, e0, hx0, hx1⟩ := at_T31 (Kd.Q_reads' O1.1).2.2 (ji35) p0 q0
     cases e0
     replace p0 := eq_true p0
     replace q0 := eq_true q0
     go_wp2_with (first | ((with_reducible refine gate_store (t := 31) (p := 34) rfl ?_); refine store_event (t := 31) (p := 34) (v := ?vo_w43) (w1 := ((wc.setCell ⟨g3, 0, none⟩ (.int .i64 ((rd_T31 t1 (ji35)).f0))).setCell ⟨g3, 1, none⟩ (.int .i64 ((rd_T31 t1 (ji35)).f1)))) ?hg ?ho ?hn ?hr ?_; (case ho => rfl); (case hg => rfl); (case hn => rfl); (case hr => exact Z10); intro w43 hw; replace O1 : Aside0 (Kd.Q k31 31 w43 w.heap.size (fun _ => True) (.slice (some ad0) t1.length co21) t1) := ⟨(by rw [hw]; exact (by (with_reducible repeat (first | apply Kd.Q_alloc | apply Kd.Q_drewN | apply Kd.Q_drew)); exact Kd.Q_mono (sqq2 O1.1 B10.1) (fun _ hk => trivial)))⟩; replace B0 : Aside0 (w43.heap[g0]? = some (.cells #[.int .i64 a0_0, .int .i64 a0_1, .slice A0_2 l0_2.length c0_2] 34 (0, 0))) := ⟨(by rw [hw]; exact (Z11 N6 B0))⟩; replace B2 : Aside0 (w43.heap[g1]? = some (.cells #[.int .i64 a1_0, .string a1_1] 38 (0, 0))) := ⟨(by rw [hw]; exact (Z11 N8 B2))⟩; replace B9 : Aside0 (w43.heap[g2]? = some (.cells #[.int .i64 0, .int .i64 0, .slice none 0 0] 34 (0, 0))) := ⟨(by rw [hw]; exact (Z11 N10 B9))⟩; replace B10 : Aside0 (w43.heap[g3]? = some (.cells #[.int .i64 ((rd_T31 t1 (ji35)).f0), .int .i64 ((rd_T31 t1 (ji35)).f1), .slice (some ad0) t1.length co21] 34 (0, 0))) := ⟨(by rw [hw]; exact (by refine sqPut (cs := #[.int .i64 ((rd_T31 t1 (ji35)).f0), .int .i64 t267, .slice (some ad0) t1.length co21]) ?_ 1; refine sqPut (cs := #[.int .i64 t266, .int .i64 t267, .slice (some ad0) t1.length co21]) ?_ 0; exact sqK B10))⟩; replace HB : Aside0 (Below w.heap.size w w43) := ⟨(by rw [hw]; exact (sqB4 HB E0 E1 E2 E3))⟩; clear hw; have hcz44_0 : w43.cell? ⟨g3, 0, none⟩ = some (.int .i64 ((rd_T31 t1 (ji35)).f0)) := (blk_cell B10.1 0).trans rfl; have hcz44_1 : w43.cell? ⟨g3, 1, none⟩ = some (.int .i64 ((rd_T31 t1 (ji35)).f1)) := (blk_cell B10.1 1).trans rfl; have hcz44_2 := sqZ B10 2 (.slice (some ad0) t1.length co21); have hfz44_0 := blk_frozen B10.1 0; have hfz44_1 := blk_frozen B10.1 1; have hfz44_2 := blk_frozen B10.1 2; have q45 : ((ji35) : Int) ≤ ((t1.length : Int) : Int) := of_decide_eq_true Z9; obtain ⟨i045, hi0, _, hsz45, _⟩ := info_parts info31; have hcut45 := cut_to (P := prog) 32 31 .i64 underlying32 hi0 (some ad0) t1.length co21 (ji35) (of_decide_eq_true Z9) q45 (Kd.Q_reads' O1.1).2.1; have hr45 := Kd.Q_take (m := ((ji35) : Int).toNat) O1.1 (by omega); have hy45 : y0.length = ((ji35) : Int).toNat := (by rw [Ny0.out, List.length_take]; omega); rw [← Ny0.out] at hr45; rw [← hy45] at hr45 hcut45; clear hy45 hi0 hsz45 O1; have O2 := sqa hr45; clear hr45; replace q45 := eq_true q45; have := N3.1; have := N2.1; have := N5.1; have := N4.1; obtain ⟨_, _, _, _, _, _⟩ := sqY3 B9))
     refine bodyPost_ret (results_ct rfl _ _ g2 34 #[.int .i64 ((rd_T31 t1 (ji35)).f0), .int .i64 ((rd_T31 t1 (ji35)).f1), .slice (some ad0) y0.length co21] (0, 0) _ rfl (by refine sqPut (cs := #[.int .i64 ((rd_T31 t1 (ji35)).f0), .int .i64 ((rd_T31 t1 (ji35)).f1), .slice none 0 0]) ?_ 2; refine sqPut (cs := #[.int .i64 ((rd_T31 t1 (ji35)).f0), .int .i64 0, .slice none 0 0]) ?_ 1; refine sqPut (cs := #[.int .i64 0, .int .i64 0, .slice none 0 0]) ?_ 0; refine sqFar ?_ N10; exact sqK B9) underlying34 rfl (by kernel_rfl)) rfl ?_
     exact ⟨_, by first | rfl | (simp [errP_none, errP_some] <;> rfl) | (simp only [← hji35]; first | rfl | (simp [errP_none, errP_some] <;> rfl)) | (simp [*, errP_none, errP_some] <;> rfl), (by (with_reducible repeat (first | apply Kd.Q_alloc | apply Kd.Q_drewN | apply Kd.Q_drew)); exact Kd.Q_mono (Kd.Q_far (p := ⟨g2, 2, none⟩) (Kd.Q_far (p := ⟨g2, 1, none⟩) (Kd.Q_far (p := ⟨g2, 0, none⟩) (Kd.Q_far (p := ⟨g3, 2, none⟩) (Kd.Q_types (Kd.Q_types O2.1 B10.1 (by decide)) B9.1 (by decide)) (fun _ hk => hk.1.2) (.slice (some ad0) y0.length co21)) (fun _ hk => hk.2) (.int .i64 ((rd_T31 t1 (ji35)).f0))) (fun _ hk => hk.2) (.int .i64 ((rd_T31 t1 (ji35)).f1))) (fun _ hk => hk.2) (.slice (some ad0) y0.length co21)) (fun _ hk => trivial)), sqB4 HB E0 E1 E2 E3⟩
    obtain rfl := sqb c34
    rw [if_neg sqF] at H
    obtain ⟨⟨t276, t277, t2⟩, A49, H⟩ := sqD H
    try dsimp only at H
    have HC50 := sqa H
    clear H
    have := N0.1
    have := N1.1
    have := N2.1
    have := N3.1
    have := N6.1
    have := N7.1
    obtain ⟨_, _, _, _, _, _⟩ := sqY3 B0
    have := N4.1
    have := N5.1
    have := N8.1
    have := N9.1
    obtain ⟨_, _, _, _⟩ := sqY2 B2
    go_upto_region 10 with (first | ((with_reducible refine sqc 57 rfl ?_); refine sqC (some 45) func57 #[.agg #[.int .i64 a0_0, .int .i64 a0_1], .agg #[.int .i64 a1_0, .string a1_1]] ?_; (with_reducible refine (spec_l11Made.calls kj5 a0_0 a0_1 a1_0 a1_1 t276 t277 t2 _ A49.1).mono ?_); refine sqV fun w58 hb => ?_; replace O1 := sqa (Kd.Q_below (Z12 O1) hb); replace B0 := sqT B0 hb; replace B2 := sqT B2 hb; replace B9 := sqT B9 hb; replace B10 := sqT B10 hb; replace HB := sqS (sqB4 HB E0 E1 E2 E3) hb; (try clear hb)) | ((with_reducible refine sqd 8 rfl ?_); (try (refine gate_guard (by rfl) ?_; dsimp only)); refine sqBx w (sqB4 HB E0 E1 E2 E3) (cs := #[.int .i64 0, .int .i64 0]) (t := 31) ?_; intro gb279 hg w59 B11 E4 HB hb; replace O1 := sqa (Kd.Q_below (Kd.Q_elderB (Z12 O1) gb279 (Nat.le_of_eq hg.symm)) hb); obtain ⟨N12, N13⟩ := sqM hg B0; replace B0 := sqT B0 hb; obtain ⟨N14, N15⟩ := sqM hg B2; replace B2 := sqT B2 hb; obtain ⟨N16, N17⟩ := sqM hg B9; replace B9 := sqT B9 hb; obtain ⟨N18, N19⟩ := sqM hg B10; replace B10 := sqT B10 hb; clear hb hg; have := N13.1; have := N12.1; have := N15.1; have := N14.1; have := N17.1; have := N16.1; have := N19.1; have := N18.1; obtain ⟨_, _, _, _⟩ := sqY2 B11))
    (try simp only [Act.put, List.setIfInBounds_toArray, List.set_cons_zero, List.set_cons_succ])
    go_cut [55] (fun v55 wc => ∃ (kq : Nat) (x55_49 : Bool), v55 = .bool x55_49 ∧ Aside0 (spec_DeskDo.j1 kq x55_49 t266 t267 t1 t276 t277 = some (r1, r2, r3, r4)) ∧ Aside0 (kq ≤ kj5) ∧ Aside0 (Kd.Q k31 31 wc w.heap.size (fun k_ => k_ ≠ gb279) (.slice Ao21 t1.length co21) t1) ∧ Aside0 (wc.heap[g0]? = some (.cells #[.int .i64 a0_0, .int .i64 a0_1, (.slice A0_2 l0_2.length c0_2)] 34 (0, 0))) ∧ Aside0 (wc.heap[g1]? = some (.cells #[.int .i64 a1_0, .string a1_1] 38 (0, 0))) ∧ Aside0 (wc.heap[g2]? = some (.cells #[.int .i64 0, .int .i64 0, (.slice none 0 0)] 34 (0, 0))) ∧ Aside0 (wc.heap[g3]? = some (.cells #[.int .i64 t266, .int .i64 t267, (.slice Ao21 t1.length co21)] 34 (0, 0))) ∧ Aside0 (wc.heap[gb279]? = some (.cells #[.int .i64 t276, .int .i64 t277] 31 (0, 0))) ∧ Aside0 (Below w.heap.size w wc))
    case first =>
     have H := HC50.1
     clear HC50
     by_cases c65 : t2 = true
     ·subst c65
      rw [if_pos rfl] at H
      have H' := sqa H
      clear H
      have := N13.1
      have := N12.1
      have := N15.1
      have := N14.1
      have := N17.1
      have := N16.1
      have := N19.1
      have := N18.1
      obtain ⟨_, _, _, _⟩ := sqY2 B11
      have := N0.1
      have := N1.1
      have := N2.1
      have := N3.1
      have := N6.1
      have := N7.1
      obtain ⟨_, _, _, _, _, _⟩ := sqY3 B0
      go_wp2
      go_meet
      case rel => exact ⟨_, ((t276 == a0_0 && (t277 == a0_1))), Z4, H', ⟨by have := HJ5.out; first | omega | exact Nat.le_refl _⟩, ⟨Z13 O1⟩, ⟨Z11 N12 B0⟩, ⟨Z11 N14 B2⟩, ⟨Z11 N16 B9⟩, ⟨Z11 N18 B10⟩, ⟨Z14 B11⟩, ⟨Z15 E0 E1 E2 E3 E4⟩⟩
     obtain rfl := sqb c65
     rw [if_neg sqF] at H
     have H' := sqa H
     clear H
     go_wp2
     go_meet
     case rel => exact ⟨_, (true), Z4, H', ⟨by have := HJ5.out; first | omega | exact Nat.le_refl _⟩, ⟨Z13 O1⟩, ⟨Z11 N12 B0⟩, ⟨Z11 N14 B2⟩, ⟨Z11 N16 B9⟩, ⟨Z11 N18 B10⟩, ⟨Z14 B11⟩, ⟨Z15 E0 E1 E2 E3 E4⟩⟩
    case rest =>
     clear HC50
     obtain ⟨kq, x55_49, rfl, HA, HJ49, O1, B0, B2, B9, B10, B11, HB⟩ := hcut
     cases kq with
     | zero => exact absurd HA.out (by simp [spec_DeskDo.j1])
     | succ kj49 =>
      have H := HA.out
      clear HA
      simp only [spec_DeskDo.j1] at H
      by_cases c75 : x55_49 = true
      ·subst c75
       rw [if_pos rfl] at H
       obtain ⟨rfl, rfl, rfl, rfl⟩ := sqO4 H
       have := N7.1
       have := N6.1
       have := N9.1
       have := N8.1
       have := N11.1
       have := N10.1
       have := N18.1
       have := N19.1
       obtain ⟨_, _, _, _, _, _⟩ := sqY3 B10
       have := N3.1
       have := N2.1
       have := N5.1
       have := N4.1
       have := N16.1
       have := N17.1
       obtain ⟨_, _, _, _, _, _⟩ := sqY3 B9
       go_wp2
       refine sqE g2 34 #[.int .i64 t266, .int .i64 t267, .slice Ao21 t1.length co21] (Z8 B9) underlying34 ?_
       exact ⟨_, Z16, by (with_reducible repeat (first | apply Kd.Q_alloc | apply Kd.Q_drewN | apply Kd.Q_drew)); exact Kd.Q_mono (sqq3 O1.1 B9.1) (fun _ hk => trivial), Z15 E0 E1 E2 E3 E4⟩
      obtain rfl := sqb c75
      rw [if_neg sqF] at H
      obtain ⟨c85, H⟩ := sqI H
      have LMc85 := sqa c85
      clear c85
      obtain ⟨y1, hy1⟩ : ∃ y_ : List (S31), y_ = (t1 ++ [(⟨t266, t267⟩ : S31)]) := ⟨_, rfl⟩
      replace H : (if (y1.length : Int) > 8 then (if 1 ≤ (y1.length : Int) then (some (t276, t277, (y1.drop (1 : Int).toNat), true)) else (none)) else (some (t276, t277, y1, true))) = some (r1, r2, r3, r4) := sqW hy1 H
      have Ny1 := sqa hy1
      clear hy1
      by_cases c86 : (y1.length : Int) > 8
      ·rw [if_pos c86] at H
       have c86b0 : decide (8 < (y1.length : Int)) = true := decide_eq_true c86
       have c86b1 : decide (8 < y1.length) = true := decide_eq_true (by omega)
       clear c86
       obtain ⟨c87, H⟩ := sqI H
       have c87b0 := eq_true c87
       have c87b1 : decide (1 ≤ (y1.length : Int)) = true := decide_eq_true c87
       clear c87
       obtain ⟨y2, hy2⟩ : ∃ y_ : List (S31), y_ = (y1.drop (1 : Int).toNat) := ⟨_, rfl⟩
       replace H : (some (t276, t277, y2, true)) = some (r1, r2, r3, r4) := sqW hy2 H
       have Ny2 := sqa hy2
       clear hy2
       obtain ⟨rfl, rfl, rfl, rfl⟩ := sqO4 H
       have := N7.1
       have := N6.1
       have := N9.1
       have := N8.1
       have := N11.1
       have := N10.1
       have := N18.1
       have := N19.1
       obtain ⟨_, _, _, _, _, _⟩ := sqY3 B10
       go_wp2_with (first | ((with_reducible refine gate_builtin (b := .append) (xs := #[.tmp 58, .tmp 61]) rfl ?_); (try (refine gate_guard (by rfl) ?_; dsimp only)); at_builtin; refine Kd.Q_append k31 (w0 := w) w.heap.size rfl (.tmp 58) (.tmp 61) 32 31 (.agg #[(.int .i64 0), (.int .i64 0)]) 16 rfl underlying32 info31 rfl (by decide) (by omega) (.slice Ao21 t1.length co21) t1 (⟨t266, t267⟩ : S31) [.int .i64 t266, .int .i64 t267] (fun k_ => k_ ≠ gb279) (fun _ => False) rfl rfl ?aP (fun _ hk => hk.elim) ?aF ?aO ?aB ?aS ?aL ?_; (case aP => exact k31_mkM _ _ _ (⟨t266, t267⟩ : S31)); (case aB => exact (Z15 E0 E1 E2 E3 E4)); (case aF => exact (fun k_ hk => Kd.freshB (sqK B11) k_ hk)); (case aO => exact (Z12 O1)); (case aS => exact (below_size (Z15 E0 E1 E2 E3 E4))); (case aL => exact Z17 LMc85); intro v1 w93 ho hb hg hat; rw [← Ny1.out] at ho; replace B0 := sqa (blk_grown (sqK B0) hg (Kd.Q_ne O1.1 B0.1 (by decide))); replace B2 := sqa (blk_grown (sqK B2) hg (Kd.Q_ne O1.1 B2.1 (by decide))); replace B9 := sqa (blk_grown (sqK B9) hg (Kd.Q_ne O1.1 B9.1 (by decide))); replace B10 := sqa (blk_grown (sqK B10) hg (Kd.Q_ne O1.1 B10.1 (by decide))); replace B11 := sqa (blk_grown (sqK B11) hg (Kd.Q_away O1.1 (fun _ hk => hk))); replace HB := sqa (hb); have O3 := sqa (ho); clear O1; clear ho hb hg hat; obtain ⟨Ao94, co94, eo94, _⟩ := Kd.Q_slice O3.1; subst eo94; obtain ⟨_, _, _, _, _, _⟩ := sqY3 B10) | ((with_reducible refine gate_store (t := 32) (p := 63) rfl ?_); refine store_event (t := 32) (p := 63) (v := ?vo_w96) (w1 := (w93.setCell ⟨g3, 2, none⟩ (.slice Ao94 y1.length co94))) ?hg ?ho ?hn ?hr ?_; (case ho => rfl); (case hg => rfl); (case hn => rfl); (case hr => exact Z10); intro w96 hw; replace O3 : Aside0 (Kd.Q k31 31 w96 w.heap.size (fun k_ => k_ ≠ gb279) (.slice Ao94 y1.length co94) y1) := ⟨(by rw [hw]; exact (by (with_reducible repeat (first | apply Kd.Q_alloc | apply Kd.Q_drewN | apply Kd.Q_drew)); exact Kd.Q_mono (Kd.Q_far (p := ⟨g3, 2, none⟩) (Kd.Q_types O3.1 B10.1 (by decide)) (fun _ hk => hk.2) (.slice Ao94 y1.length co94)) (fun _ hk => hk.1)))⟩; replace B0 : Aside0 (w96.heap[g0]? = some (.cells #[.int .i64 a0_0, .int .i64 a0_1, .slice A0_2 l0_2.length c0_2] 34 (0, 0))) := ⟨(by rw [hw]; exact (Z18 N6 B0))⟩; replace B2 : Aside0 (w96.heap[g1]? = some (.cells #[.int .i64 a1_0, .string a1_1] 38 (0, 0))) := ⟨(by rw [hw]; exact (Z18 N8 B2))⟩; replace B9 : Aside0 (w96.heap[g2]? = some (.cells #[.int .i64 0, .int .i64 0, .slice none 0 0] 34 (0, 0))) := ⟨(by rw [hw]; exact (Z18 N10 B9))⟩; replace B10 : Aside0 (w96.heap[g3]? = some (.cells #[.int .i64 t266, .int .i64 t267, .slice Ao94 y1.length co94] 34 (0, 0))) := ⟨(by rw [hw]; exact (by refine sqPut (cs := #[.int .i64 t266, .int .i64 t267, .slice Ao21 t1.length co21]) ?_ 2; exact sqK B10))⟩; replace B11 : Aside0 (w96.heap[gb279]? = some (.cells #[.int .i64 t276, .int .i64 t277] 31 (0, 0))) := ⟨(by rw [hw]; exact (Z18 N19 B11))⟩; replace HB : Aside0 (Below w.heap.size w w96) := ⟨(by rw [hw]; exact (Z15 E0 E1 E2 E3 E4))⟩; clear hw; obtain ⟨_, _, _, _, _, _⟩ := sqY3 B10; have q98 : (1 : Int) ≤ ((y1.length : Int) : Int) := of_decide_eq_true Z9; obtain ⟨i098, hi1, _, hsz98, _⟩ := info_parts info31; have hcut98 := cut_from (P := prog) 32 31 .i64 underlying32 hi1 2 hsz98 Ao94 y1.length co94 1 (by omega) q98; have hr98 := Kd.Q_drop (k := (1 : Int).toNat) O3.1 (by omega); obtain ⟨A98, hA98⟩ : ∃ A1, A1 = (if co94 = (1 : Int).toNat then Ao94 else (Ao94 : Option Addr).map (·.add ((1 : Int).toNat * 2))) := ⟨_, rfl⟩; obtain ⟨c98, hc98⟩ : ∃ c1, c1 = co94 - (1 : Int).toNat := ⟨_, rfl⟩; have hy98 : y2.length = y1.length - (1 : Int).toNat := (by rw [Ny2.out, List.length_drop]); rw [← Ny2.out] at hr98; rw [← hy98, ← hA98, ← hc98] at hcut98; replace hr98 : Kd.Q k31 31 w96 w.heap.size (fun k_ => k_ ≠ gb279) (.slice A98 y2.length c98) y2 := (by rw [hA98, hc98, hy98]; exact hr98); have HE98 : Aside0 ((Value.slice A98 y2.length c98).ownBlock = (.slice Ao94 y1.length co94 : Value).ownBlock) := ⟨by rw [hA98]; split <;> (cases (Ao94 : Option Addr) <;> rfl)⟩; clear hy98 hi1 hsz98 O3 hA98 hc98; have O4 := sqa hr98; clear hr98; replace q98 := eq_true q98; have := N13.1; have := N12.1; have := N15.1; have := N14.1; have := N17.1; have := N16.1; obtain ⟨_, _, _, _⟩ := sqY2 B11; have := N3.1; have := N2.1; have := N5.1; have := N4.1; obtain ⟨_, _, _, _, _, _⟩ := sqY3 B9))
       refine sqE g2 34 #[.int .i64 t276, .int .i64 t277, .slice A98 y2.length c98] (Z19 N10 B9) underlying34 ?_
       exact ⟨_, Z16, by (with_reducible repeat (first | apply Kd.Q_alloc | apply Kd.Q_drewN | apply Kd.Q_drew)); exact Kd.Q_mono (Kd.Q_far (p := ⟨g2, 2, none⟩) (Kd.Q_far (p := ⟨g2, 1, none⟩) (Kd.Q_far (p := ⟨g2, 0, none⟩) (Kd.Q_far (p := ⟨g3, 1, none⟩) (Kd.Q_far (p := ⟨g3, 0, none⟩) (Kd.Q_far (p := ⟨g3, 2, none⟩) (Kd.Q_types (Kd.Q_types O4.1 B10.1 (by decide)) B9.1 (by decide)) (fun _ hk => hk.1.2) (.slice A98 y2.length c98)) (fun _ hk => hk.1.2) (.int .i64 t276)) (fun _ hk => hk.1.2) (.int .i64 t277)) (fun _ hk => hk.2) (.int .i64 t276)) (fun _ hk => hk.2) (.int .i64 t277)) (fun _ hk => hk.2) (.slice A98 y2.length c98)) (fun _ hk => trivial), Z15 E0 E1 E2 E3 E4⟩
      rw [if_neg c86] at H
      have c86b0 : decide (8 < (y1.length : Int)) = false := decide_eq_false c86
      have c86b1 : decide (8 < y1.length) = false := decide_eq_false (by omega)
      clear c86
      obtain ⟨rfl, rfl, rfl, rfl⟩ := sqO4 H
      have := N7.1
      have := N6.1
      have := N9.1
      have := N8.1
      have := N11.1
      have := N10.1
      have := N18.1
      have := N19.1
      obtain ⟨_, _, _, _, _, _⟩ := sqY3 B10
      go_wp2_with (first | ((with_reducible refine gate_builtin (b := .append) (xs := #[.tmp 58, .tmp 61]) rfl ?_); (try (refine gate_guard (by rfl) ?_; dsimp only)); at_builtin; refine Kd.Q_append k31 (w0 := w) w.heap.size rfl (.tmp 58) (.tmp 61) 32 31 (.agg #[(.int .i64 0), (.int .i64 0)]) 16 rfl underlying32 info31 rfl (by decide) (by omega) (.slice Ao21 t1.length co21) t1 (⟨t266, t267⟩ : S31) [.int .i64 t266, .int .i64 t267] (fun k_ => k_ ≠ gb279) (fun _ => False) rfl rfl ?aP (fun _ hk => hk.elim) ?aF ?aO ?aB ?aS ?aL ?_; (case aP => exact k31_mkM _ _ _ (⟨t266, t267⟩ : S31)); (case aB => exact (Z15 E0 E1 E2 E3 E4)); (case aF => exact (fun k_ hk => Kd.freshB (sqK B11) k_ hk)); (case aO => exact (Z12 O1)); (case aS => exact (below_size (Z15 E0 E1 E2 E3 E4))); (case aL => exact Z17 LMc85); intro v1 w2 ho hb hg hat; rw [← Ny1.out] at ho; replace B0 := sqa (blk_grown (sqK B0) hg (Kd.Q_ne O1.1 B0.1 (by decide))); replace B2 := sqa (blk_grown (sqK B2) hg (Kd.Q_ne O1.1 B2.1 (by decide))); replace B9 := sqa (blk_grown (sqK B9) hg (Kd.Q_ne O1.1 B9.1 (by decide))); replace B10 := sqa (blk_grown (sqK B10) hg (Kd.Q_ne O1.1 B10.1 (by decide))); replace B11 := sqa (blk_grown (sqK B11) hg (Kd.Q_away O1.1 (fun _ hk => hk))); replace HB := sqa (hb); have O3 := sqa (ho); clear O1; clear ho hb hg hat; obtain ⟨Ao0, co0, eo0, _⟩ := Kd.Q_slice O3.1; subst eo0; obtain ⟨_, _, _, _, _, _⟩ := sqY3 B10; have := N13.1; have := N12.1; have := N15.1; have := N14.1; have := N17.1; have := N16.1; obtain ⟨_, _, _, _⟩ := sqY2 B11; have := N3.1; have := N2.1; have := N5.1; have := N4.1; obtain ⟨_, _, _, _, _, _⟩ := sqY3 B9))
      refine sqE g2 34 #[.int .i64 t276, .int .i64 t277, .slice Ao0 y1.length co0] (Z19 N10 B9) underlying34 ?_
      exact ⟨_, Z16, by (with_reducible repeat (first | apply Kd.Q_alloc | apply Kd.Q_drewN | apply Kd.Q_drew)); exact Kd.Q_mono (Kd.Q_far (p := ⟨g2, 2, none⟩) (Kd.Q_far (p := ⟨g2, 1, none⟩) (Kd.Q_far (p := ⟨g2, 0, none⟩) (Kd.Q_far (p := ⟨g3, 1, none⟩) (Kd.Q_far (p := ⟨g3, 0, none⟩) (Kd.Q_far (p := ⟨g3, 2, none⟩) (Kd.Q_types (Kd.Q_types O3.1 B10.1 (by decide)) B9.1 (by decide)) (fun _ hk => hk.1.2) (.slice Ao0 y1.length co0)) (fun _ hk => hk.1.2) (.int .i64 t276)) (fun _ hk => hk.1.2) (.int .i64 t277)) (fun _ hk => hk.2) (.int .i64 t276)) (fun _ hk => hk.2) (.int .i64 t277)) (fun _ hk => hk.2) (.slice Ao0 y1.length co0)) (fun _ hk => trivial), Z15 E0 E1 E2 E3 E4⟩
 obtain rfl := sqb c4
 rw [if_neg sqF] at H
 obtain ⟨rfl, rfl, rfl, rfl⟩ := sqO4 H
 go_enter func14, ntmps14
 go_wp2_with (first | ((with_reducible refine sqd 2 rfl ?_); (try (refine gate_guard (by rfl) ?_; dsimp only)); refine sqBx w (sqB HB) (cs := #[.int .i64 a0_0, .int .i64 a0_1, .slice A0_2 l0_2.length c0_2]) (t := 34) ?_; intro g0 hg w3 B0 E0 HB hb; clear hb hg) | ((with_reducible refine sqd 3 rfl ?_); (try (refine gate_guard (by rfl) ?_; dsimp only)); refine sqBx w (sqB1 HB E0) (cs := #[.int .i64 a1_0, .string a1_1]) (t := 38) ?_; intro g1 hg w4 B2 E1 HB hb; obtain ⟨N0, N1⟩ := sqM hg B0; replace B0 := sqT B0 hb; clear hb hg) | ((with_reducible refine sqd 4 rfl ?_); (try (refine gate_guard (by rfl) ?_; dsimp only)); refine sqBx w (sqB2 HB E0 E1) (cs := #[.int .i64 0, .int .i64 0, .slice none 0 0]) (t := 34) ?_; intro g2 hg w5 B9 E2 HB hb; obtain ⟨N2, N3⟩ := sqM hg B0; replace B0 := sqT B0 hb; obtain ⟨N4, N5⟩ := sqM hg B2; replace B2 := sqT B2 hb; clear hb hg; have := N0.1; have := N1.1; have := N2.1; have := N3.1; obtain ⟨_, _, _, _, _, _⟩ := sqY3 B0) | ((with_reducible refine sqc 30 rfl ?_); refine sqC (some 11) func30 #[.agg #[.int .i64 a0_0, .int .i64 a0_1, .slice A0_2 l0_2.length c0_2]] ?_; (with_reducible refine (spec_DeskOk.calls k a0_0 a0_1 _ _ l0_2 false _ ?side1 ?side2 A3.1).mono ?_); (case side1 => exact Z2); (case side2 => exact Z3); refine sqV fun w6 hb => ?_; replace B0 := sqT B0 hb; replace B2 := sqT B2 hb; replace B9 := sqT B9 hb; replace HB := sqS (sqB3 HB E0 E1 E2) hb; (try clear hb); have := N5.1; have := N4.1; obtain ⟨_, _, _, _, _, _⟩ := sqY3 B9))
 refine sqE g2 34 #[.int .i64 0, .int .i64 0, .slice none 0 0] (Z20 B9) underlying34 ?_
 exact ⟨_, Z16, Kd.Q_of_R Z21, sqB3 HB E0 E1 E2⟩

end Go.Proofs.YtofmlbgfcohhoaaGreatDoor.PFnExactDeskSay
