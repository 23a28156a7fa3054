import Derived.Test.YtofmlbgfcohhoaaGreatDoorPFnDeskLinex16
set_option maxHeartbeats 8000000
set_option maxRecDepth 100000
namespace Go.Proofs.YtofmlbgfcohhoaaGreatDoor.PFnDeskLine
open Go.RowKit Go.Proofs.YtofmlbgfcohhoaaGreatDoorW.PrintWords Go.Proofs.YtofmlbgfcohhoaaGreatDoorW.PrintLast Go.Proofs.YtofmlbgfcohhoaaGreatDoorW.PrintMore Go.Proofs.YtofmlbgfcohhoaaGreatDoor.Lib Go.Proofs.Tryz
attribute [local go_sem] max2_int min2_int max_two min_two max_three min_three max_four min_four
set_option linter.unusedVariables false
set_option linter.unusedSimpArgs false

section
attribute [local go_sem high] eqA31 eqA38
/-! ### spec_DeskDo: function 14 -/
mutual
def spec_DeskDo.j0 : Nat → Bool → Int → Int → List (S31) → Int → ByteArray → Int → Int → List (S31) → Option (Int × Int × (List (S31)) × Bool)
 | 0, _, _, _, _, _, _, _, _, _ => none
 | k + 1, x0, x1, x2, x3, x4, x5, x6, x7, x8 => if x0 = true then (if 0 ≤ (wrap64 ((x8.length : Int) - 1)) then (if (wrap64 ((x8.length : Int) - 1)) < (x8.length : Int) then (if (wrap64 ((x8.length : Int) - 1)) ≤ (x8.length : Int) then (some ((rd_T31 x8 (wrap64 ((x8.length : Int) - 1))).f0, (rd_T31 x8 (wrap64 ((x8.length : Int) - 1))).f1, (x8.take ((wrap64 ((x8.length : Int) - 1)) : Int).toNat), true)) else (none)) else (none)) else (none)) else ((spec_l11Made.f k x1 x2 x4 x5).bind fun bt0 => (if bt0.2.2 = true then (spec_DeskDo.j1 k (bt0.1 == x1 && (bt0.2.1 == x2)) x6 x7 x8 bt0.1 bt0.2.1) else (spec_DeskDo.j1 k true x6 x7 x8 bt0.1 bt0.2.1)))
def spec_DeskDo.j1 : Nat → Bool → Int → Int → List (S31) → Int → Int → Option (Int × Int × (List (S31)) × Bool)
 | 0, _, _, _, _, _, _ => none
 | k + 1, x0, x1, x2, x3, x4, x5 => if x0 = true then (some (x1, x2, x3, false)) else (if x3.length < 8796093022208 then ((some (x3 ++ [(⟨x1, x2⟩ : S31)] : List (S31))).bind fun y0 => (if (y0.length : Int) > 8 then (if 1 ≤ (y0.length : Int) then (some (x4, x5, (y0.drop (1 : Int).toNat), true)) else (none)) else (some (x4, x5, y0, true)))) else (none))
end
def spec_DeskDo.f (k : Nat) (a0_0 : Int) (a0_1 : Int) (l0_2 : List (S31)) (a1_0 : Int) (a1_1 : ByteArray) : Option (Int × Int × (List (S31)) × Bool) := (spec_DeskOk.f k a0_0 a0_1 l0_2).bind fun t0 => (if t0 = true then ((spec_l11Copy.f a0_0 a0_1 l0_2).bind fun bt0 => (if (a1_0 == 4 && (a1_1.toList == ([] : List UInt8))) = true then (spec_DeskDo.j0 k (decide ((l0_2.length : Int) > 0)) a0_0 a0_1 l0_2 a1_0 a1_1 bt0.1 bt0.2.1 bt0.2.2) else (spec_DeskDo.j0 k false a0_0 a0_1 l0_2 a1_0 a1_1 bt0.1 bt0.2.1 bt0.2.2))) else (some (0, 0, ([] : List (S31)), false)))
abbrev spec_DeskDo.M (k : Nat) : Prop := (∀ y0 y1 y2 y3 y4 y5 y6 y7 y8, LeO (spec_DeskDo.j0 k y0 y1 y2 y3 y4 y5 y6 y7 y8) (spec_DeskDo.j0 (k + 1) y0 y1 y2 y3 y4 y5 y6 y7 y8)) ∧ (∀ y0 y1 y2 y3 y4 y5, LeO (spec_DeskDo.j1 k y0 y1 y2 y3 y4 y5) (spec_DeskDo.j1 (k + 1) y0 y1 y2 y3 y4 y5))
theorem spec_DeskDo.mono_t : ∀ k, spec_DeskDo.M k → spec_DeskDo.M (k + 1) ∧ ∀ a0 a1 a2 a3 a4, LeO (spec_DeskDo.f k a0 a1 a2 a3 a4) (spec_DeskDo.f (k + 1) a0 a1 a2 a3 a4) := by
  rintro k ⟨ih0, ih1⟩
  refine ⟨⟨?_, ?_⟩, ?_⟩ <;> intros <;> (first | unfold spec_DeskDo.j0 | unfold spec_DeskDo.j1 | unfold spec_DeskDo.f) <;> repeat' (with_reducible first | exact ih0 _ _ _ _ _ _ _ _ _ | exact ih1 _ _ _ _ _ _ | exact spec_DeskOk.mono _ _ _ _ | exact spec_l11Made.mono _ _ _ _ _ | exact LeO.refl _ | exact LeO.none _ | refine LeO.ite ?_ ?_ | refine LeO.bind ?_ fun _ => ?_)
theorem spec_DeskDo.mono_l : ∀ k, spec_DeskDo.M k
 | 0 => ⟨fun _ _ _ _ _ _ _ _ _ r h => by simp [spec_DeskDo.j0] at h, fun _ _ _ _ _ _ r h => by simp [spec_DeskDo.j1] at h⟩
 | k + 1 => (spec_DeskDo.mono_t k (spec_DeskDo.mono_l k)).1
theorem spec_DeskDo.mono a0 a1 a2 a3 a4 k : LeO (spec_DeskDo.f k a0 a1 a2 a3 a4) (spec_DeskDo.f (k + 1) a0 a1 a2 a3 a4) := (spec_DeskDo.mono_t k (spec_DeskDo.mono_l k)).2 a0 a1 a2 a3 a4
theorem spec_DeskDo.calls (k : Nat) (a0_0 : Int) (a0_1 : Int) (A0_2 : Option Addr) (c0_2 : Nat) (l0_2 : List (S31)) (a1_0 : Int) (a1_1 : ByteArray) (r1 : Int) (r2 : Int) (r3 : List (S31)) (r4 : Bool) (w : World) (hr0_2 : Kd.C k31 w A0_2 l0_2.length l0_2) (hc0_2 : l0_2.length ≤ c0_2) (H : spec_DeskDo.f k a0_0 a0_1 l0_2 a1_0 a1_1 = some (r1, r2, r3, r4)) :
  Calls prog 14 #[.agg #[.int .i64 a0_0, .int .i64 a0_1, .slice A0_2 l0_2.length c0_2], .agg #[.int .i64 a1_0, .string a1_1]] w fun e w' => ∃ v2_ : Value, e = .returned (.tuple #[.agg #[.int .i64 r1, .int .i64 r2, v2_], .bool r4]) ∧ Kd.Q k31 31 w' w.heap.size (fun _ => True) v2_ r3 ∧ Below w.heap.size w w' := by
 have hu34 := underlying34
 have hu38 := underlying38
 have hu31 := underlying31
 have HR0_2 := sqa hr0_2
 have HC0_2 := sqa hc0_2
 clear hr0_2 hc0_2
 have HB := sqh w
 unfold spec_DeskDo.f at H
 obtain ⟨t0, A3, H⟩ := sqD H
 by_cases c4 : t0 = true
 ·subst c4
  rw [if_pos rfl] at H
  obtain ⟨⟨t496, t497, t1⟩, A5, H⟩ := sqD H
  try dsimp only at H
  have HC6 := sqa H
  clear H
  go_enter func14, ntmps14
  go_upto_region 4 with (first | ((with_reducible refine sqd 2 rfl ?_); (try (refine gate_guard (by rfl) ?_; dsimp only)); refine sqBx w (sqB HB) (cs := #[.int .i64 a0_0, .int .i64 a0_1, .slice A0_2 l0_2.length c0_2]) (t := 34) ?_; intro g0 hg w7 B0 E0 HB hb; clear hb hg) | ((with_reducible refine sqd 3 rfl ?_); (try (refine gate_guard (by rfl) ?_; dsimp only)); refine sqBx w (sqB1 HB E0) (cs := #[.int .i64 a1_0, .string a1_1]) (t := 38) ?_; intro g1 hg w8 B2 E1 HB hb; obtain ⟨N0, N1⟩ := sqM hg B0; replace B0 := sqT B0 hb; clear hb hg) | ((with_reducible refine sqd 4 rfl ?_); (try (refine gate_guard (by rfl) ?_; dsimp only)); refine sqBx w (sqB2 HB E0 E1) (cs := #[.int .i64 0, .int .i64 0, .slice none 0 0]) (t := 34) ?_; intro g2 hg w9 B8 E2 HB hb; obtain ⟨N2, N3⟩ := sqM hg B0; replace B0 := sqT B0 hb; obtain ⟨N4, N5⟩ := sqM hg B2; replace B2 := sqT B2 hb; clear hb hg; have := N0.1; have := N1.1; have := N2.1; have := N3.1; obtain ⟨_, _, _, _, _, _⟩ := sqY3 B0) | ((with_reducible refine sqc 30 rfl ?_); refine sqC (some 11) func30 #[.agg #[.int .i64 a0_0, .int .i64 a0_1, .slice A0_2 l0_2.length c0_2]] ?_; (with_reducible refine (spec_DeskOk.calls k a0_0 a0_1 _ _ l0_2 true _ ?side1 ?side2 A3.1).mono ?_); (case side1 => exact Z34); (case side2 => exact Z35); refine sqV fun w2 hb => ?_; replace B0 := sqT B0 hb; replace B2 := sqT B2 hb; replace B8 := sqT B8 hb; replace HB := sqS (sqB3 HB E0 E1 E2) hb; obtain ⟨_, _, _, _, _, _⟩ := sqY3 B0) | ((with_reducible refine sqc 56 rfl ?_); refine sqC (some 15) func56 #[.agg #[.int .i64 a0_0, .int .i64 a0_1, .slice A0_2 l0_2.length c0_2]] ?_; (with_reducible refine (spec_l11Copy.calls a0_0 a0_1 _ _ l0_2 t496 t497 t1 _ ?side1 ?side2 A5.1).mono ?_); (case side1 => exact Z34); (case side2 => exact Z35); rintro e w3 ⟨v0, rfl, ho0, hb⟩; refine ⟨_, rfl, ?_⟩; have O0 := sqL ho0 (sqB3 HB E0 E1 E2); replace B0 := sqT B0 hb; replace B2 := sqT B2 hb; replace B8 := sqT B8 hb; replace HB := sqS (sqB3 HB E0 E1 E2) hb; (try clear ho0)) | ((with_reducible refine sqd 6 rfl ?_); (try (refine gate_guard (by rfl) ?_; dsimp only)); refine sqBx w (sqB3 HB E0 E1 E2) (cs := #[.int .i64 0, .int .i64 0, .slice none 0 0]) (t := 34) ?_; intro g3 hg w4 B9 E3 HB hb; replace O0 := sqU O0 hb; obtain ⟨N6, N7⟩ := sqM hg B0; replace B0 := sqT B0 hb; obtain ⟨N8, N9⟩ := sqM hg B2; replace B2 := sqT B2 hb; obtain ⟨N10, N11⟩ := sqM hg B8; replace B8 := sqT B8 hb; clear hb hg; have := N7.1; have := N6.1; have := N9.1; have := N8.1; have := N11.1; have := N10.1; obtain ⟨_, _, _, _, _, _⟩ := sqY3 B9; obtain ⟨Ao0, co0, eo0⟩ := Kd.R_slice O0.1; subst eo0))
  (try simp only [Act.put, List.setIfInBounds_toArray, List.set_cons_zero, List.set_cons_succ])
  go_cut [24] (fun v24 wc => ∃ (kq : Nat) (x0 : Bool), v24 = .bool x0 ∧ Aside0 (spec_DeskDo.j0 kq x0 a0_0 a0_1 l0_2 a1_0 a1_1 t496 t497 t1 = some (r1, r2, r3, r4)) ∧ Aside0 (kq ≤ k) ∧ Aside0 (Kd.Q k31 31 wc w.heap.size (fun _ => True) (.slice Ao0 t1.length co0) t1) ∧ Aside0 (wc.heap[g0]? = some (.cells #[.int .i64 a0_0, .int .i64 a0_1, (.slice A0_2 l0_2.length c0_2)] 34 (0, 0))) ∧ Aside0 (wc.heap[g1]? = some (.cells #[.int .i64 a1_0, .string a1_1] 38 (0, 0))) ∧ Aside0 (wc.heap[g2]? = some (.cells #[.int .i64 0, .int .i64 0, (.slice none 0 0)] 34 (0, 0))) ∧ Aside0 (wc.heap[g3]? = some (.cells #[.int .i64 t496, .int .i64 t497, (.slice Ao0 t1.length co0)] 34 (0, 0))) ∧ Aside0 (Below w.heap.size w wc))
  case first =>
   have H := HC6.1
   clear HC6
   by_cases c0 : (a1_0 == 4 && (a1_1.toList == ([] : List UInt8))) = true
   ·rw [if_pos c0] at H
    have c2 : (a1_0 == 4 && (a1_1.toList == ([] : List UInt8))) = true := c0
    try have c3 : (a1_0 == 4 && a1_1.toList.isEmpty) = true := by (have h_ := c2; (repeat rw [sqy] at h_); exact h_)
    (try (have c5 : decide (a1_0 = 4 && (a1_1.toList == ([] : List UInt8))) = true := by simpa using c0))
    (try (have c6 : (a1_0 == 4 && (a1_1.toList == ([] : List UInt8))) = true := by simpa using c0))
    clear c0
    (first | rw [c2] | (simp only [i64_w, i32_w]; rw [c2]) | skip)
    have H' := sqa H
    clear H
    have := N1.1
    have := N0.1
    have := N4.1
    have := N5.1
    have := N8.1
    have := N9.1
    obtain ⟨_, _, _, _⟩ := sqY2 B2
    have := N2.1
    have := N3.1
    have := N6.1
    have := N7.1
    obtain ⟨_, _, _, _, _, _⟩ := sqY3 B0
    go_wp2
    go_meet
    case rel => exact ⟨_, (decide ((l0_2.length : Int) > 0)), Z1, H', ⟨Z11⟩, ⟨Kd.Q_of_R (Z36 O0 B9)⟩, ⟨Z37 N6 B0⟩, ⟨Z37 N8 B2⟩, ⟨Z37 N10 B8⟩, ⟨Z38 B9⟩, ⟨sqB4 HB E0 E1 E2 E3⟩⟩
   rw [if_neg c0] at H
   have c2 : (a1_0 == 4 && (a1_1.toList == ([] : List UInt8))) = false := by simpa using c0
   try have c3 : (a1_0 == 4 && a1_1.toList.isEmpty) = false := by (have h_ := c2; (repeat rw [sqy] at h_); exact h_)
   (try (have c5 : decide (a1_0 = 4 && (a1_1.toList == ([] : List UInt8))) = false := by simpa using c0))
   (try (have c6 : (a1_0 == 4 && (a1_1.toList == ([] : List UInt8))) = false := by simpa using c0))
   (try (have c7 : ¬ (a1_0 = 4 && (a1_1.toList == ([] : List UInt8))) := by simpa using c0))
   clear c0
   (first | rw [c2] | (simp only [i64_w, i32_w]; rw [c2]) | skip)
   have H' := sqa H
   clear H
   have := N1.1
   have := N0.1
   have := N4.1
   have := N5.1
   have := N8.1
   have := N9.1
   obtain ⟨_, _, _, _⟩ := sqY2 B2
   go_wp2
   go_meet
   case rel => exact ⟨_, (false), Z1, H', ⟨Z11⟩, ⟨Kd.Q_of_R (Z36 O0 B9)⟩, ⟨Z37 N6 B0⟩, ⟨Z37 N8 B2⟩, ⟨Z37 N10 B8⟩, ⟨Z38 B9⟩, ⟨sqB4 HB E0 E1 E2 E3⟩⟩
  case rest =>
   clear HC6
   obtain ⟨kq, x0, rfl, HA, HJ5, O1, B0, B2, B8, B9, HB⟩ := hcut
   cases kq with
   | zero => exact absurd HA.out (by simp [spec_DeskDo.j0])
   | succ kj5 =>
    have H := HA.out
    clear HA
    simp only [spec_DeskDo.j0] at H
    by_cases c8 : x0 = true
    ·subst c8
     rw [if_pos rfl] at H
     obtain ⟨ji0, hji0⟩ : ∃ j_ : Int, (wrap64 ((t1.length : Int) - 1)) = j_ := ⟨_, rfl⟩
     replace H : (if 0 ≤ (ji0) then (if (ji0) < (t1.length : Int) then (if (ji0) ≤ (t1.length : Int) then (some ((rd_T31 t1 (ji0)).f0, (rd_T31 t1 (ji0)).f1, (t1.take ((ji0) : Int).toNat), true)) else (none)) else (none)) else (none)) = some (r1, r2, r3, r4) := by first | (rw [hji0] at H; exact H) | (simp only [hji0] at H ⊢; exact H)
     have hji1 : (IntKind.i64.wrap ((t1.length : Int) - 1)) = ji0 := (i64_w _).trans hji0
     obtain ⟨c9, H⟩ := sqI H
     have c10 : decide (0 ≤ (ji0)) = true := decide_eq_true c9
     clear c9
     obtain ⟨c37, H⟩ := sqI H
     have c11 : decide ((ji0) < (t1.length : Int)) = true := decide_eq_true c37
     clear c37
     obtain ⟨c38, H⟩ := sqI H
     have c13 := eq_true c38
     have c14 : decide ((ji0) ≤ (t1.length : Int)) = true := decide_eq_true c38
     clear c38
     obtain ⟨y0, hy0⟩ : ∃ y_ : List (S31), y_ = (t1.take ((ji0) : Int).toNat) := ⟨_, rfl⟩
     replace H : (some ((rd_T31 t1 (ji0)).f0, (rd_T31 t1 (ji0)).f1, y0, true)) = some (r1, r2, r3, r4) := sqW hy0 H
     have Ny0 := sqa hy0
     clear hy0
     obtain ⟨rfl, rfl, rfl, rfl⟩ := sqO4 H
     have := N7.1
     have := N6.1
     have := N9.1
     have := N8.1
     have := N11.1
     have := N10.1
     obtain ⟨_, _, _, _, _, _⟩ := sqY3 B9
     have p0 : 0 ≤ ((ji0) : Int) := of_decide_eq_true Z16
     have q0 : (ji0) < (t1.length : Int) := of_decide_eq_true Z16
     obtain ⟨ad0, e0, hx0, hx1⟩ := at_T31 (Kd.Q_reads' O1.1).2.2 (ji0) p0 q0
     cases e0
     replace p0 := eq_true p0
     replace q0 := eq_true q0
     go_wp2_with (first | ((with_reducible refine gate_store (t := 31) (p := 34) rfl ?_); refine store_event (t := 31) (p := 34) (v := ?vo_w0) (w1 := ((wc.setCell ⟨g3, 0, none⟩ (.int .i64 ((rd_T31 t1 (ji0)).f0))).setCell ⟨g3, 1, none⟩ (.int .i64 ((rd_T31 t1 (ji0)).f1)))) ?hg ?ho ?hn ?hr ?_; (case ho => rfl); (case hg => rfl); (case hn => rfl); (case hr => exact Z17); intro w5 hw; replace O1 : Aside0 (Kd.Q k31 31 w5 w.heap.size (fun _ => True) (.slice (some ad0) t1.length co0) t1) := ⟨(by rw [hw]; exact (by (with_reducible repeat (first | apply Kd.Q_alloc | apply Kd.Q_drewN | apply Kd.Q_drew)); exact Kd.Q_mono (sqq2 O1.1 B9.1) (fun _ hk => trivial)))⟩; replace B0 : Aside0 (w5.heap[g0]? = some (.cells #[.int .i64 a0_0, .int .i64 a0_1, .slice A0_2 l0_2.length c0_2] 34 (0, 0))) := ⟨(by rw [hw]; exact (Z9 N6 B0))⟩; replace B2 : Aside0 (w5.heap[g1]? = some (.cells #[.int .i64 a1_0, .string a1_1] 38 (0, 0))) := ⟨(by rw [hw]; exact (Z9 N8 B2))⟩; replace B8 : Aside0 (w5.heap[g2]? = some (.cells #[.int .i64 0, .int .i64 0, .slice none 0 0] 34 (0, 0))) := ⟨(by rw [hw]; exact (Z9 N10 B8))⟩; replace B9 : Aside0 (w5.heap[g3]? = some (.cells #[.int .i64 ((rd_T31 t1 (ji0)).f0), .int .i64 ((rd_T31 t1 (ji0)).f1), .slice (some ad0) t1.length co0] 34 (0, 0))) := ⟨(by rw [hw]; exact (by refine sqPut (cs := #[.int .i64 ((rd_T31 t1 (ji0)).f0), .int .i64 t497, .slice (some ad0) t1.length co0]) ?_ 1; refine sqPut (cs := #[.int .i64 t496, .int .i64 t497, .slice (some ad0) t1.length co0]) ?_ 0; exact sqK B9))⟩; replace HB : Aside0 (Below w.heap.size w w5) := ⟨(by rw [hw]; exact (sqB4 HB E0 E1 E2 E3))⟩; clear hw; have hcz0 : w5.cell? ⟨g3, 0, none⟩ = some (.int .i64 ((rd_T31 t1 (ji0)).f0)) := (blk_cell B9.1 0).trans rfl; have hcz1 : w5.cell? ⟨g3, 1, none⟩ = some (.int .i64 ((rd_T31 t1 (ji0)).f1)) := (blk_cell B9.1 1).trans rfl; have hcz2 := sqZ B9 2 (.slice (some ad0) t1.length co0); have hfz0 := blk_frozen B9.1 0; have hfz1 := blk_frozen B9.1 1; have hfz2 := blk_frozen B9.1 2; have q1 : ((ji0) : Int) ≤ ((t1.length : Int) : Int) := of_decide_eq_true Z16; obtain ⟨i045, hi0, _, hsz0, _⟩ := info_parts info31; have hcut0 := cut_to (P := prog) 32 31 .i64 underlying32 hi0 (some ad0) t1.length co0 (ji0) (of_decide_eq_true Z16) q1 (Kd.Q_reads' O1.1).2.1; have hr0 := Kd.Q_take (m := ((ji0) : Int).toNat) O1.1 (by omega); have hy1 : y0.length = ((ji0) : Int).toNat := (by rw [Ny0.out, List.length_take]; omega); rw [← Ny0.out] at hr0; rw [← hy1] at hr0 hcut0; clear hy1 hi0 hsz0 O1; have O2 := sqa hr0; clear hr0; replace q1 := eq_true q1; have := N3.1; have := N2.1; have := N5.1; have := N4.1; obtain ⟨_, _, _, _, _, _⟩ := sqY3 B8))
     refine bodyPost_ret (results_ct rfl _ _ g2 34 #[.int .i64 ((rd_T31 t1 (ji0)).f0), .int .i64 ((rd_T31 t1 (ji0)).f1), .slice (some ad0) y0.length co0] (0, 0) _ rfl (by refine sqPut (cs := #[.int .i64 ((rd_T31 t1 (ji0)).f0), .int .i64 ((rd_T31 t1 (ji0)).f1), .slice none 0 0]) ?_ 2; refine sqPut (cs := #[.int .i64 ((rd_T31 t1 (ji0)).f0), .int .i64 0, .slice none 0 0]) ?_ 1; refine sqPut (cs := #[.int .i64 0, .int .i64 0, .slice none 0 0]) ?_ 0; refine sqFar ?_ N10; exact sqK B8) underlying34 rfl (by kernel_rfl)) rfl ?_
     exact ⟨_, by first | rfl | (simp [errP_none, errP_some] <;> rfl) | (simp only [← hji0]; first | rfl | (simp [errP_none, errP_some] <;> rfl)) | (simp [*, errP_none, errP_some] <;> rfl), (by (with_reducible repeat (first | apply Kd.Q_alloc | apply Kd.Q_drewN | apply Kd.Q_drew)); exact Kd.Q_mono (Kd.Q_far (p := ⟨g2, 2, none⟩) (Kd.Q_far (p := ⟨g2, 1, none⟩) (Kd.Q_far (p := ⟨g2, 0, none⟩) (Kd.Q_far (p := ⟨g3, 2, none⟩) (Kd.Q_types (Kd.Q_types O2.1 B9.1 (by decide)) B8.1 (by decide)) (fun _ hk => hk.1.2) (.slice (some ad0) y0.length co0)) (fun _ hk => hk.2) (.int .i64 ((rd_T31 t1 (ji0)).f0))) (fun _ hk => hk.2) (.int .i64 ((rd_T31 t1 (ji0)).f1))) (fun _ hk => hk.2) (.slice (some ad0) y0.length co0)) (fun _ hk => trivial)), sqB4 HB E0 E1 E2 E3⟩
    obtain rfl := sqb c8
    rw [if_neg sqF] at H
    obtain ⟨⟨t506, t507, t2⟩, A0, H⟩ := sqD H
    try dsimp only at H
    have HC0 := sqa H
    clear H
    have := N0.1
    have := N1.1
    have := N2.1
    have := N3.1
    have := N6.1
    have := N7.1
    obtain ⟨_, _, _, _, _, _⟩ := sqY3 B0
    have := N4.1
    have := N5.1
    have := N8.1
    have := N9.1
    obtain ⟨_, _, _, _⟩ := sqY2 B2
    go_upto_region 10 with (first | ((with_reducible refine sqc 57 rfl ?_); refine sqC (some 45) func57 #[.agg #[.int .i64 a0_0, .int .i64 a0_1], .agg #[.int .i64 a1_0, .string a1_1]] ?_; (with_reducible refine (spec_l11Made.calls kj5 a0_0 a0_1 a1_0 a1_1 t506 t507 t2 _ A0.1).mono ?_); refine sqV fun w6 hb => ?_; replace O1 := sqa (Kd.Q_below (Z39 O1) hb); replace B0 := sqT B0 hb; replace B2 := sqT B2 hb; replace B8 := sqT B8 hb; replace B9 := sqT B9 hb; replace HB := sqS (sqB4 HB E0 E1 E2 E3) hb) | ((with_reducible refine sqd 8 rfl ?_); (try (refine gate_guard (by rfl) ?_; dsimp only)); refine sqBx w (sqB4 HB E0 E1 E2 E3) (cs := #[.int .i64 0, .int .i64 0]) (t := 31) ?_; intro gb509 hg w59 B10 E4 HB hb; replace O1 := sqa (Kd.Q_below (Kd.Q_elderB (Z39 O1) gb509 (Nat.le_of_eq hg.symm)) hb); obtain ⟨N12, N13⟩ := sqM hg B0; replace B0 := sqT B0 hb; obtain ⟨N14, N15⟩ := sqM hg B2; replace B2 := sqT B2 hb; obtain ⟨N16, N17⟩ := sqM hg B8; replace B8 := sqT B8 hb; obtain ⟨N18, N19⟩ := sqM hg B9; replace B9 := sqT B9 hb; clear hb hg; have := N13.1; have := N12.1; have := N15.1; have := N14.1; have := N17.1; have := N16.1; have := N19.1; have := N18.1; obtain ⟨_, _, _, _⟩ := sqY2 B10))
    (try simp only [Act.put, List.setIfInBounds_toArray, List.set_cons_zero, List.set_cons_succ])
    go_cut [55] (fun v1 wc => ∃ (kq : Nat) (x1 : Bool), v1 = .bool x1 ∧ Aside0 (spec_DeskDo.j1 kq x1 t496 t497 t1 t506 t507 = some (r1, r2, r3, r4)) ∧ Aside0 (kq ≤ kj5) ∧ Aside0 (Kd.Q k31 31 wc w.heap.size (fun k_ => k_ ≠ gb509) (.slice Ao0 t1.length co0) t1) ∧ Aside0 (wc.heap[g0]? = some (.cells #[.int .i64 a0_0, .int .i64 a0_1, (.slice A0_2 l0_2.length c0_2)] 34 (0, 0))) ∧ Aside0 (wc.heap[g1]? = some (.cells #[.int .i64 a1_0, .string a1_1] 38 (0, 0))) ∧ Aside0 (wc.heap[g2]? = some (.cells #[.int .i64 0, .int .i64 0, (.slice none 0 0)] 34 (0, 0))) ∧ Aside0 (wc.heap[g3]? = some (.cells #[.int .i64 t496, .int .i64 t497, (.slice Ao0 t1.length co0)] 34 (0, 0))) ∧ Aside0 (wc.heap[gb509]? = some (.cells #[.int .i64 t506, .int .i64 t507] 31 (0, 0))) ∧ Aside0 (Below w.heap.size w wc))
    case first =>
     have H := HC0.1
     clear HC0
     by_cases c65 : t2 = true
     ·subst c65
      rw [if_pos rfl] at H
      have H' := sqa H
      clear H
      have := N13.1
      have := N12.1
      have := N15.1
      have := N14.1
      have := N17.1
      have := N16.1
      have := N19.1
      have := N18.1
      obtain ⟨_, _, _, _⟩ := sqY2 B10
      have := N0.1
      have := N1.1
      have := N2.1
      have := N3.1
      have := N6.1
      have := N7.1
      obtain ⟨_, _, _, _, _, _⟩ := sqY3 B0
      go_wp2
      go_meet
      case rel => exact ⟨_, ((t506 == a0_0 && (t507 == a0_1))), Z1, H', ⟨by have := HJ5.out; first | omega | exact Nat.le_refl _⟩, ⟨Z40 O1⟩, ⟨Z9 N12 B0⟩, ⟨Z9 N14 B2⟩, ⟨Z9 N16 B8⟩, ⟨Z9 N18 B9⟩, ⟨Z41 B10⟩, ⟨Z42 E0 E1 E2 E3 E4⟩⟩
     obtain rfl := sqb c65
     rw [if_neg sqF] at H
     have H' := sqa H
     clear H
     go_wp2
     go_meet
     case rel => exact ⟨_, (true), Z1, H', ⟨by have := HJ5.out; first | omega | exact Nat.le_refl _⟩, ⟨Z40 O1⟩, ⟨Z9 N12 B0⟩, ⟨Z9 N14 B2⟩, ⟨Z9 N16 B8⟩, ⟨Z9 N18 B9⟩, ⟨Z41 B10⟩, ⟨Z42 E0 E1 E2 E3 E4⟩⟩
    case rest =>
     clear HC0
     obtain ⟨kq, x1, rfl, HA, HJ0, O1, B0, B2, B8, B9, B10, HB⟩ := hcut
     cases kq with
     | zero => exact absurd HA.out (by simp [spec_DeskDo.j1])
     | succ kj0 =>
      have H := HA.out
      clear HA
      simp only [spec_DeskDo.j1] at H
      by_cases c75 : x1 = true
      ·subst c75
       rw [if_pos rfl] at H
       obtain ⟨rfl, rfl, rfl, rfl⟩ := sqO4 H
       have := N7.1
       have := N6.1
       have := N9.1
       have := N8.1
       have := N11.1
       have := N10.1
       have := N18.1
       have := N19.1
       obtain ⟨_, _, _, _, _, _⟩ := sqY3 B9
       have := N3.1
       have := N2.1
       have := N5.1
       have := N4.1
       have := N16.1
       have := N17.1
       obtain ⟨_, _, _, _, _, _⟩ := sqY3 B8
       go_wp2
       refine sqE g2 34 #[.int .i64 t496, .int .i64 t497, .slice Ao0 t1.length co0] (Z38 B8) underlying34 ?_
       exact ⟨_, Z5, by (with_reducible repeat (first | apply Kd.Q_alloc | apply Kd.Q_drewN | apply Kd.Q_drew)); exact Kd.Q_mono (sqq3 O1.1 B8.1) (fun _ hk => trivial), Z42 E0 E1 E2 E3 E4⟩
      obtain rfl := sqb c75
      rw [if_neg sqF] at H
      obtain ⟨c85, H⟩ := sqI H
      have LMc0 := sqa c85
      clear c85
      obtain ⟨y1, hy2⟩ : ∃ y_ : List (S31), y_ = (t1 ++ [(⟨t496, t497⟩ : S31)]) := ⟨_, rfl⟩
      replace H : (if (y1.length : Int) > 8 then (if 1 ≤ (y1.length : Int) then (some (t506, t507, (y1.drop (1 : Int).toNat), true)) else (none)) else (some (t506, t507, y1, true))) = some (r1, r2, r3, r4) := sqW hy2 H
      have Ny1 := sqa hy2
      clear hy2
      by_cases c86 : (y1.length : Int) > 8
      ·rw [if_pos c86] at H
       have c17 : decide (8 < (y1.length : Int)) = true := decide_eq_true c86
       have c18 : decide (8 < y1.length) = true := decide_eq_true (by omega)
       clear c86
       obtain ⟨c87, H⟩ := sqI H
       have c20 := eq_true c87
       have c21 : decide (1 ≤ (y1.length : Int)) = true := decide_eq_true c87
       clear c87
       obtain ⟨y2, hy3⟩ : ∃ y_ : List (S31), y_ = (y1.drop (1 : Int).toNat) := ⟨_, rfl⟩
       replace H : (some (t506, t507, y2, true)) = some (r1, r2, r3, r4) := sqW hy3 H
       have Ny2 := sqa hy3
       clear hy3
       obtain ⟨rfl, rfl, rfl, rfl⟩ := sqO4 H
       have := N7.1
       have := N6.1
       have := N9.1
       have := N8.1
       have := N11.1
       have := N10.1
       have := N18.1
       have := N19.1
       obtain ⟨_, _, _, _, _, _⟩ := sqY3 B9
       go_wp2_with (first | ((with_reducible refine gate_builtin (b := .append) (xs := #[.tmp 58, .tmp 61]) rfl ?_); (try (refine gate_guard (by rfl) ?_; dsimp only)); at_builtin; refine Kd.Q_append k31 (w0 := w) w.heap.size rfl (.tmp 58) (.tmp 61) 32 31 (.agg #[(.int .i64 0), (.int .i64 0)]) 16 rfl underlying32 info31 rfl (by decide) (by omega) (.slice Ao0 t1.length co0) t1 (⟨t496, t497⟩ : S31) [.int .i64 t496, .int .i64 t497] (fun k_ => k_ ≠ gb509) (fun _ => False) rfl rfl ?aP (fun _ hk => hk.elim) ?aF ?aO ?aB ?aS ?aL ?_; (case aP => exact k31_mkM _ _ _ (⟨t496, t497⟩ : S31)); (case aB => exact (Z42 E0 E1 E2 E3 E4)); (case aF => exact (fun k_ hk => Kd.freshB (sqK B10) k_ hk)); (case aO => exact (Z39 O1)); (case aS => exact (below_size (Z42 E0 E1 E2 E3 E4))); (case aL => exact Z2 LMc0); intro v2 w93 ho hb hg hat; rw [← Ny1.out] at ho; replace B0 := sqa (blk_grown (sqK B0) hg (Kd.Q_ne O1.1 B0.1 (by decide))); replace B2 := sqa (blk_grown (sqK B2) hg (Kd.Q_ne O1.1 B2.1 (by decide))); replace B8 := sqa (blk_grown (sqK B8) hg (Kd.Q_ne O1.1 B8.1 (by decide))); replace B9 := sqa (blk_grown (sqK B9) hg (Kd.Q_ne O1.1 B9.1 (by decide))); replace B10 := sqa (blk_grown (sqK B10) hg (Kd.Q_away O1.1 (fun _ hk => hk))); replace HB := sqa (hb); have O3 := sqa (ho); clear O1; clear ho hb hg hat; obtain ⟨Ao1, co1, eo1, _⟩ := Kd.Q_slice O3.1; subst eo1; obtain ⟨_, _, _, _, _, _⟩ := sqY3 B9) | ((with_reducible refine gate_store (t := 32) (p := 63) rfl ?_); refine store_event (t := 32) (p := 63) (v := ?vo_w1) (w1 := (w93.setCell ⟨g3, 2, none⟩ (.slice Ao1 y1.length co1))) ?hg ?ho ?hn ?hr ?_; (case ho => rfl); (case hg => rfl); (case hn => rfl); (case hr => exact Z17); intro w96 hw; replace O3 : Aside0 (Kd.Q k31 31 w96 w.heap.size (fun k_ => k_ ≠ gb509) (.slice Ao1 y1.length co1) y1) := ⟨(by rw [hw]; exact (by (with_reducible repeat (first | apply Kd.Q_alloc | apply Kd.Q_drewN | apply Kd.Q_drew)); exact Kd.Q_mono (Kd.Q_far (p := ⟨g3, 2, none⟩) (Kd.Q_types O3.1 B9.1 (by decide)) (fun _ hk => hk.2) (.slice Ao1 y1.length co1)) (fun _ hk => hk.1)))⟩; replace B0 : Aside0 (w96.heap[g0]? = some (.cells #[.int .i64 a0_0, .int .i64 a0_1, .slice A0_2 l0_2.length c0_2] 34 (0, 0))) := ⟨(by rw [hw]; exact (Z3 N6 B0))⟩; replace B2 : Aside0 (w96.heap[g1]? = some (.cells #[.int .i64 a1_0, .string a1_1] 38 (0, 0))) := ⟨(by rw [hw]; exact (Z3 N8 B2))⟩; replace B8 : Aside0 (w96.heap[g2]? = some (.cells #[.int .i64 0, .int .i64 0, .slice none 0 0] 34 (0, 0))) := ⟨(by rw [hw]; exact (Z3 N10 B8))⟩; replace B9 : Aside0 (w96.heap[g3]? = some (.cells #[.int .i64 t496, .int .i64 t497, .slice Ao1 y1.length co1] 34 (0, 0))) := ⟨(by rw [hw]; exact (by refine sqPut (cs := #[.int .i64 t496, .int .i64 t497, .slice Ao0 t1.length co0]) ?_ 2; exact sqK B9))⟩; replace B10 : Aside0 (w96.heap[gb509]? = some (.cells #[.int .i64 t506, .int .i64 t507] 31 (0, 0))) := ⟨(by rw [hw]; exact (Z3 N19 B10))⟩; replace HB : Aside0 (Below w.heap.size w w96) := ⟨(by rw [hw]; exact (Z42 E0 E1 E2 E3 E4))⟩; clear hw; obtain ⟨_, _, _, _, _, _⟩ := sqY3 B9; have q2 : (1 : Int) ≤ ((y1.length : Int) : Int) := of_decide_eq_true Z16; obtain ⟨i098, hi1, _, hsz1, _⟩ := info_parts info31; have hcut1 := cut_from (P := prog) 32 31 .i64 underlying32 hi1 2 hsz1 Ao1 y1.length co1 1 (by omega) q2; have hr1 := Kd.Q_drop (k := (1 : Int).toNat) O3.1 (by omega); obtain ⟨A2, hA0⟩ : ∃ A1, A1 = (if co1 = (1 : Int).toNat then Ao1 else (Ao1 : Option Addr).map (·.add ((1 : Int).toNat * 2))) := ⟨_, rfl⟩; obtain ⟨c98, hc0⟩ : ∃ c1, c1 = co1 - (1 : Int).toNat := ⟨_, rfl⟩; have hy4 : y2.length = y1.length - (1 : Int).toNat := (by rw [Ny2.out, List.length_drop]); rw [← Ny2.out] at hr1; rw [← hy4, ← hA0, ← hc0] at hcut1; replace hr1 : Kd.Q k31 31 w96 w.heap.size (fun k_ => k_ ≠ gb509) (.slice A2 y2.length c98) y2 := (by rw [hA0, hc0, hy4]; exact hr1); have HE0 : Aside0 ((Value.slice A2 y2.length c98).ownBlock = (.slice Ao1 y1.length co1 : Value).ownBlock) := ⟨by rw [hA0]; split <;> (cases (Ao1 : Option Addr) <;> rfl)⟩; clear hy4 hi1 hsz1 O3 hA0 hc0; have O4 := sqa hr1; clear hr1; replace q2 := eq_true q2; have := N13.1; have := N12.1; have := N15.1; have := N14.1; have := N17.1; have := N16.1; obtain ⟨_, _, _, _⟩ := sqY2 B10; have := N3.1; have := N2.1; have := N5.1; have := N4.1; obtain ⟨_, _, _, _, _, _⟩ := sqY3 B8))
       refine sqE g2 34 #[.int .i64 t506, .int .i64 t507, .slice A2 y2.length c98] (Z43 N10 B8) underlying34 ?_
       exact ⟨_, Z5, by (with_reducible repeat (first | apply Kd.Q_alloc | apply Kd.Q_drewN | apply Kd.Q_drew)); exact Kd.Q_mono (Kd.Q_far (p := ⟨g2, 2, none⟩) (Kd.Q_far (p := ⟨g2, 1, none⟩) (Kd.Q_far (p := ⟨g2, 0, none⟩) (Kd.Q_far (p := ⟨g3, 1, none⟩) (Kd.Q_far (p := ⟨g3, 0, none⟩) (Kd.Q_far (p := ⟨g3, 2, none⟩) (Kd.Q_types (Kd.Q_types O4.1 B9.1 (by decide)) B8.1 (by decide)) (fun _ hk => hk.1.2) (.slice A2 y2.length c98)) (fun _ hk => hk.1.2) (.int .i64 t506)) (fun _ hk => hk.1.2) (.int .i64 t507)) (fun _ hk => hk.2) (.int .i64 t506)) (fun _ hk => hk.2) (.int .i64 t507)) (fun _ hk => hk.2) (.slice A2 y2.length c98)) (fun _ hk => trivial), Z42 E0 E1 E2 E3 E4⟩
      rw [if_neg c86] at H
      have c17 : decide (8 < (y1.length : Int)) = false := decide_eq_false c86
      have c18 : decide (8 < y1.length) = false := decide_eq_false (by omega)
      clear c86
      obtain ⟨rfl, rfl, rfl, rfl⟩ := sqO4 H
      have := N7.1
      have := N6.1
      have := N9.1
      have := N8.1
      have := N11.1
      have := N10.1
      have := N18.1
      have := N19.1
      obtain ⟨_, _, _, _, _, _⟩ := sqY3 B9
      go_wp2_with (first | ((with_reducible refine gate_builtin (b := .append) (xs := #[.tmp 58, .tmp 61]) rfl ?_); (try (refine gate_guard (by rfl) ?_; dsimp only)); at_builtin; refine Kd.Q_append k31 (w0 := w) w.heap.size rfl (.tmp 58) (.tmp 61) 32 31 (.agg #[(.int .i64 0), (.int .i64 0)]) 16 rfl underlying32 info31 rfl (by decide) (by omega) (.slice Ao0 t1.length co0) t1 (⟨t496, t497⟩ : S31) [.int .i64 t496, .int .i64 t497] (fun k_ => k_ ≠ gb509) (fun _ => False) rfl rfl ?aP (fun _ hk => hk.elim) ?aF ?aO ?aB ?aS ?aL ?_; (case aP => exact k31_mkM _ _ _ (⟨t496, t497⟩ : S31)); (case aB => exact (Z42 E0 E1 E2 E3 E4)); (case aF => exact (fun k_ hk => Kd.freshB (sqK B10) k_ hk)); (case aO => exact (Z39 O1)); (case aS => exact (below_size (Z42 E0 E1 E2 E3 E4))); (case aL => exact Z2 LMc0); intro v2 w14 ho hb hg hat; rw [← Ny1.out] at ho; replace B0 := sqa (blk_grown (sqK B0) hg (Kd.Q_ne O1.1 B0.1 (by decide))); replace B2 := sqa (blk_grown (sqK B2) hg (Kd.Q_ne O1.1 B2.1 (by decide))); replace B8 := sqa (blk_grown (sqK B8) hg (Kd.Q_ne O1.1 B8.1 (by decide))); replace B9 := sqa (blk_grown (sqK B9) hg (Kd.Q_ne O1.1 B9.1 (by decide))); replace B10 := sqa (blk_grown (sqK B10) hg (Kd.Q_away O1.1 (fun _ hk => hk))); replace HB := sqa (hb); have O3 := sqa (ho); clear O1; clear ho hb hg hat; obtain ⟨Ao2, co2, eo2, _⟩ := Kd.Q_slice O3.1; subst eo2; obtain ⟨_, _, _, _, _, _⟩ := sqY3 B9; have := N13.1; have := N12.1; have := N15.1; have := N14.1; have := N17.1; have := N16.1; obtain ⟨_, _, _, _⟩ := sqY2 B10; have := N3.1; have := N2.1; have := N5.1; have := N4.1; obtain ⟨_, _, _, _, _, _⟩ := sqY3 B8))
      refine sqE g2 34 #[.int .i64 t506, .int .i64 t507, .slice Ao2 y1.length co2] (Z43 N10 B8) underlying34 ?_
      exact ⟨_, Z5, by (with_reducible repeat (first | apply Kd.Q_alloc | apply Kd.Q_drewN | apply Kd.Q_drew)); exact Kd.Q_mono (Kd.Q_far (p := ⟨g2, 2, none⟩) (Kd.Q_far (p := ⟨g2, 1, none⟩) (Kd.Q_far (p := ⟨g2, 0, none⟩) (Kd.Q_far (p := ⟨g3, 1, none⟩) (Kd.Q_far (p := ⟨g3, 0, none⟩) (Kd.Q_far (p := ⟨g3, 2, none⟩) (Kd.Q_types (Kd.Q_types O3.1 B9.1 (by decide)) B8.1 (by decide)) (fun _ hk => hk.1.2) (.slice Ao2 y1.length co2)) (fun _ hk => hk.1.2) (.int .i64 t506)) (fun _ hk => hk.1.2) (.int .i64 t507)) (fun _ hk => hk.2) (.int .i64 t506)) (fun _ hk => hk.2) (.int .i64 t507)) (fun _ hk => hk.2) (.slice Ao2 y1.length co2)) (fun _ hk => trivial), Z42 E0 E1 E2 E3 E4⟩
 obtain rfl := sqb c4
 rw [if_neg sqF] at H
 obtain ⟨rfl, rfl, rfl, rfl⟩ := sqO4 H
 go_enter func14, ntmps14
 go_wp2_with (first | ((with_reducible refine sqd 2 rfl ?_); (try (refine gate_guard (by rfl) ?_; dsimp only)); refine sqBx w (sqB HB) (cs := #[.int .i64 a0_0, .int .i64 a0_1, .slice A0_2 l0_2.length c0_2]) (t := 34) ?_; intro g0 hg w17 B0 E0 HB hb; clear hb hg) | ((with_reducible refine sqd 3 rfl ?_); (try (refine gate_guard (by rfl) ?_; dsimp only)); refine sqBx w (sqB1 HB E0) (cs := #[.int .i64 a1_0, .string a1_1]) (t := 38) ?_; intro g1 hg w18 B2 E1 HB hb; obtain ⟨N0, N1⟩ := sqM hg B0; replace B0 := sqT B0 hb; clear hb hg) | ((with_reducible refine sqd 4 rfl ?_); (try (refine gate_guard (by rfl) ?_; dsimp only)); refine sqBx w (sqB2 HB E0 E1) (cs := #[.int .i64 0, .int .i64 0, .slice none 0 0]) (t := 34) ?_; intro g2 hg w19 B8 E2 HB hb; obtain ⟨N2, N3⟩ := sqM hg B0; replace B0 := sqT B0 hb; obtain ⟨N4, N5⟩ := sqM hg B2; replace B2 := sqT B2 hb; clear hb hg; have := N0.1; have := N1.1; have := N2.1; have := N3.1; obtain ⟨_, _, _, _, _, _⟩ := sqY3 B0) | ((with_reducible refine sqc 30 rfl ?_); refine sqC (some 11) func30 #[.agg #[.int .i64 a0_0, .int .i64 a0_1, .slice A0_2 l0_2.length c0_2]] ?_; (with_reducible refine (spec_DeskOk.calls k a0_0 a0_1 _ _ l0_2 false _ ?side1 ?side2 A3.1).mono ?_); (case side1 => exact Z34); (case side2 => exact Z35); refine sqV fun w20 hb => ?_; replace B0 := sqT B0 hb; replace B2 := sqT B2 hb; replace B8 := sqT B8 hb; replace HB := sqS (sqB3 HB E0 E1 E2) hb; have := N5.1; have := N4.1; obtain ⟨_, _, _, _, _, _⟩ := sqY3 B8))
 refine sqE g2 34 #[.int .i64 0, .int .i64 0, .slice none 0 0] (Z44 B8) underlying34 ?_
 exact ⟨_, Z5, Kd.Q_of_R Z45, sqB3 HB E0 E1 E2⟩
end
section
attribute [local go_sem high] eqA38
/-! ### spec_DeedText: function 122 -/
mutual
def spec_DeedText.j0 : Nat → Bool → Bool → Int → ByteArray → Option (ByteArray)
 | 0, _, _, _, _ => none
 | k + 1, x4, x0, x1, x2 => if x0 = true then (if 6 + x2.size ≤ 9223372036854775807 then (some ((⟨#[100, 97, 110, 99, 101, 32]⟩ : ByteArray) ++ x2)) else (none)) else (if x1 = 1 then (spec_DeedText.j1 k x4 x1 x2) else (spec_DeedText.j1 k false x1 x2))
def spec_DeedText.j1 : Nat → Bool → Int → ByteArray → Option (ByteArray)
 | 0, _, _, _ => none
 | k + 1, x0, x1, x2 => if x0 = true then (if 5 + x2.size ≤ 9223372036854775807 then (some ((⟨#[116, 97, 107, 101, 32]⟩ : ByteArray) ++ x2)) else (none)) else (if (x1 == 2 && (x2.toList == ([] : List UInt8))) = true then (some (⟨#[109, 105, 114, 114, 111, 114]⟩ : ByteArray)) else (if (x1 == 3 && (x2.toList == ([] : List UInt8))) = true then (some (⟨#[117, 110, 116, 105, 101]⟩ : ByteArray)) else (if (x1 == 4 && (x2.toList == ([] : List UInt8))) = true then (some (⟨#[98, 97, 99, 107]⟩ : ByteArray)) else (some (⟨#[]⟩ : ByteArray)))))
end
def spec_DeedText.f (k : Nat) (a0_0 : Int) (a0_1 : ByteArray) : Option (ByteArray) := (spec_ReadFraction.f k a0_1).bind fun bt0 => (if a0_0 = 0 then ((spec_DanceOk.f k a0_1).bind fun t0 => (spec_DeedText.j0 k bt0.2.2 t0 a0_0 a0_1)) else (spec_DeedText.j0 k bt0.2.2 false a0_0 a0_1))
abbrev spec_DeedText.M (k : Nat) : Prop := (∀ y0 y1 y2 y3, LeO (spec_DeedText.j0 k y0 y1 y2 y3) (spec_DeedText.j0 (k + 1) y0 y1 y2 y3)) ∧ (∀ y0 y1 y2, LeO (spec_DeedText.j1 k y0 y1 y2) (spec_DeedText.j1 (k + 1) y0 y1 y2))
theorem spec_DeedText.mono_t : ∀ k, spec_DeedText.M k → spec_DeedText.M (k + 1) ∧ ∀ a0 a1, LeO (spec_DeedText.f k a0 a1) (spec_DeedText.f (k + 1) a0 a1) := by
  rintro k ⟨ih0, ih1⟩
  refine ⟨⟨?_, ?_⟩, ?_⟩ <;> intros <;> (first | unfold spec_DeedText.j0 | unfold spec_DeedText.j1 | unfold spec_DeedText.f) <;> repeat' (with_reducible first | exact ih0 _ _ _ _ | exact ih1 _ _ _ | exact spec_DanceOk.mono _ _ | exact spec_ReadFraction.mono _ _ | exact LeO.refl _ | exact LeO.none _ | refine LeO.ite ?_ ?_ | refine LeO.bind ?_ fun _ => ?_)
theorem spec_DeedText.mono_l : ∀ k, spec_DeedText.M k
 | 0 => ⟨fun _ _ _ _ r h => by simp [spec_DeedText.j0] at h, fun _ _ _ r h => by simp [spec_DeedText.j1] at h⟩
 | k + 1 => (spec_DeedText.mono_t k (spec_DeedText.mono_l k)).1
theorem spec_DeedText.mono a0 a1 k : LeO (spec_DeedText.f k a0 a1) (spec_DeedText.f (k + 1) a0 a1) := (spec_DeedText.mono_t k (spec_DeedText.mono_l k)).2 a0 a1
theorem spec_DeedText.calls (k : Nat) (a0_0 : Int) (a0_1 : ByteArray) (r : ByteArray) (w : World) (H : spec_DeedText.f k a0_0 a0_1 = some r) :
  Calls prog 122 #[.agg #[.int .i64 a0_0, .string a0_1]] w fun e w' => e = .returned (.string r) ∧ Below w.heap.size w w' := by
 have hu38 := underlying38
 have hu31 := underlying31
 have HB := sqh w
 unfold spec_DeedText.f at H
 obtain ⟨⟨t517, t0, t1⟩, A2, H⟩ := sqD H
 try dsimp only at H
 have HC3 := sqa H
 clear H
 go_enter func122, ntmps122
 go_upto_region 2 with (first | ((with_reducible refine sqd 1 rfl ?_); refine sqBx w (sqB HB) (cs := #[.int .i64 a0_0, .string a0_1]) (t := 38) ?_; intro g0 hg w4 B0 E0 HB hb; clear hb hg; obtain ⟨_, _, _, _⟩ := sqY2 B0) | ((with_reducible refine sqc 107 rfl ?_); refine sqC (some 8) func107 #[.string a0_1] ?_; (with_reducible refine (spec_ReadFraction.calls k a0_1 t517 t0 t1 _ A2.1).mono ?_); refine sqV fun w6 hb => ?_; replace B0 := sqT B0 hb; replace HB := sqS (sqB1 HB E0) hb) | ((with_reducible refine sqd 3 rfl ?_); refine sqBx w (sqB1 HB E0) (cs := #[.int .i64 0, .int .i64 0]) (t := 31) ?_; intro g1 hg w7 B2 E1 HB hb; obtain ⟨N0, N1⟩ := sqM hg B0; replace B0 := sqT B0 hb; clear hb hg; have := N1.1; have := N0.1; obtain ⟨_, _, _, _⟩ := sqY2 B2))
 (try simp only [Act.put, List.setIfInBounds_toArray, List.set_cons_zero, List.set_cons_succ])
 go_cut [11] (fun v0 wc => ∃ (kq : Nat) (x0 : Bool), v0 = .bool x0 ∧ Aside0 (spec_DeedText.j0 kq t1 x0 a0_0 a0_1 = some r) ∧ Aside0 (kq ≤ k) ∧ Aside0 (wc.heap[g0]? = some (.cells #[.int .i64 a0_0, .string a0_1] 38 (0, 0))) ∧ Aside0 (wc.heap[g1]? = some (.cells #[.int .i64 t517, .int .i64 t0] 31 (0, 0))) ∧ Aside0 (Below w.heap.size w wc))
 case first =>
  have H := HC3.1
  clear HC3
  by_cases c10 : a0_0 = 0
  ·rw [if_pos c10] at H
   have c0 := sqe1 c10
   have c1 := sqn0 c10
   clear c10
   (first | rw [c0] | (simp only [i64_w, i32_w]; rw [c0]) | skip)
   obtain ⟨t2, A0, H⟩ := sqD H
   have H' := sqa H
   clear H
   have := N0.1
   have := N1.1
   obtain ⟨_, _, _, _⟩ := sqY2 B0
   go_wp2_with (first | (go_at_call 134; (with_reducible refine (spec_DanceOk.calls k a0_1 t2 _ A0.1).mono ?_); rintro e w' ⟨rfl, ⟨nd, rfl⟩⟩))
   go_meet
   case rel => exact ⟨_, (t2), Z1, H', ⟨Z11⟩, ⟨Z9 N0 B0⟩, ⟨Z46 B2⟩, ⟨sqB2 HB E0 E1⟩⟩
  rw [if_neg c10] at H
  have c0 := sqe0 c10
  have c1 := sqn1 c10
  (first | rw [c0] | (simp only [i64_w, i32_w]; rw [c0]) | skip)
  have H' := sqa H
  clear H
  have := N0.1
  have := N1.1
  obtain ⟨_, _, _, _⟩ := sqY2 B0
  go_wp2
  go_meet
  case rel => exact ⟨_, (false), Z1, H', ⟨Z11⟩, ⟨Z9 N0 B0⟩, ⟨Z46 B2⟩, ⟨sqB2 HB E0 E1⟩⟩
 case rest =>
  clear HC3
  obtain ⟨kq, x0, rfl, HA, HJ2, B0, B2, HB⟩ := hcut
  cases kq with
  | zero => exact absurd HA.out (by simp [spec_DeedText.j0])
  | succ kj2 =>
   have H := HA.out
   clear HA
   simp only [spec_DeedText.j0] at H
   by_cases c2 : x0 = true
   ·subst c2
    rw [if_pos rfl] at H
    obtain ⟨c3, H⟩ := sqI H
    have c4 := eq_true c3
    have c5 : decide (6 + a0_1.size ≤ 9223372036854775807) = true := decide_eq_true c3
    try have c6 : (9223372036854775807 < 6 + a0_1.size) = False := eq_false (Nat.not_lt.2 c3)
    obtain rfl := sqo H
    have := N0.1
    have := N1.1
    obtain ⟨_, _, _, _⟩ := sqY2 B0
    go_wp2
    go_ret
    exact ⟨Z5, sqB2 HB E0 E1⟩
   obtain rfl := sqb c2
   rw [if_neg sqF] at H
   have HC0 := sqa H
   clear H
   go_upto_region 4 with (fail)
   go_cut [23] (fun v1 wc => ∃ (kq : Nat) (x1 : Bool), v1 = .bool x1 ∧ Aside0 (spec_DeedText.j1 kq x1 a0_0 a0_1 = some r) ∧ Aside0 (kq ≤ kj2) ∧ Aside0 (wc.heap[g0]? = some (.cells #[.int .i64 a0_0, .string a0_1] 38 (0, 0))) ∧ Aside0 (wc.heap[g1]? = some (.cells #[.int .i64 t517, .int .i64 t0] 31 (0, 0))) ∧ Aside0 (Below w.heap.size w wc))
   case first =>
    have H := HC0.1
    clear HC0
    by_cases c21 : a0_0 = 1
    ·rw [if_pos c21] at H
     have c7 := sqe1 c21
     have c8 := sqn0 c21
     clear c21
     (first | rw [c7] | (simp only [i64_w, i32_w]; rw [c7]) | skip)
     have H' := sqa H
     clear H
     have := N0.1
     have := N1.1
     obtain ⟨_, _, _, _⟩ := sqY2 B0
     go_wp2
     go_meet
     case rel => exact ⟨_, (t1), Z1, H', ⟨Z47⟩, ⟨sqK B0⟩, ⟨sqK B2⟩, ⟨sqB2 HB E0 E1⟩⟩
    rw [if_neg c21] at H
    have c7 := sqe0 c21
    have c8 := sqn1 c21
    (first | rw [c7] | (simp only [i64_w, i32_w]; rw [c7]) | skip)
    have H' := sqa H
    clear H
    have := N0.1
    have := N1.1
    obtain ⟨_, _, _, _⟩ := sqY2 B0
    go_wp2
    go_meet
    case rel => exact ⟨_, (false), Z1, H', ⟨Z47⟩, ⟨sqK B0⟩, ⟨sqK B2⟩, ⟨sqB2 HB E0 E1⟩⟩
   case rest =>
    clear HC0
    obtain ⟨kq, x1, rfl, HA, HJ0, B0, B2, HB⟩ := hcut
    cases kq with
    | zero => exact absurd HA.out (by simp [spec_DeedText.j1])
    | succ kj0 =>
     have H := HA.out
     clear HA
     simp only [spec_DeedText.j1] at H
     by_cases c9 : x1 = true
     ·subst c9
      rw [if_pos rfl] at H
      obtain ⟨c27, H⟩ := sqI H
      have c12 := eq_true c27
      have c13 : decide (5 + a0_1.size ≤ 9223372036854775807) = true := decide_eq_true c27
      try have c14 : (9223372036854775807 < 5 + a0_1.size) = False := eq_false (Nat.not_lt.2 c27)
      obtain rfl := sqo H
      have := N0.1
      have := N1.1
      obtain ⟨_, _, _, _⟩ := sqY2 B0
      go_wp2
      go_ret
      exact ⟨Z5, sqB2 HB E0 E1⟩
     obtain rfl := sqb c9
     rw [if_neg sqF] at H
     by_cases c30 : (a0_0 == 2 && (a0_1.toList == ([] : List UInt8))) = true
     ·rw [if_pos c30] at H
      have c18 : (a0_0 == 2 && (a0_1.toList == ([] : List UInt8))) = true := c30
      try have c19 : (a0_0 == 2 && a0_1.toList.isEmpty) = true := by (have h_ := c18; (repeat rw [sqy] at h_); exact h_)
      (try (have c20 : decide (a0_0 = 2 && (a0_1.toList == ([] : List UInt8))) = true := by simpa using c30))
      (try (have c22 : (a0_0 == 2 && (a0_1.toList == ([] : List UInt8))) = true := by simpa using c30))
      clear c30
      obtain rfl := sqo H
      have := N0.1
      have := N1.1
      obtain ⟨_, _, _, _⟩ := sqY2 B0
      go_wp2
      go_ret
      exact ⟨Z5, sqB2 HB E0 E1⟩
     rw [if_neg c30] at H
     have c18 : (a0_0 == 2 && (a0_1.toList == ([] : List UInt8))) = false := by simpa using c30
     try have c19 : (a0_0 == 2 && a0_1.toList.isEmpty) = false := by (have h_ := c18; (repeat rw [sqy] at h_); exact h_)
     (try (have c20 : decide (a0_0 = 2 && (a0_1.toList == ([] : List UInt8))) = false := by simpa using c30))
     (try (have c22 : (a0_0 == 2 && (a0_1.toList == ([] : List UInt8))) = false := by simpa using c30))
     (try (have c23 : ¬ (a0_0 = 2 && (a0_1.toList == ([] : List UInt8))) := by simpa using c30))
     clear c30
     by_cases c33 : (a0_0 == 3 && (a0_1.toList == ([] : List UInt8))) = true
     ·rw [if_pos c33] at H
      have c25 : (a0_0 == 3 && (a0_1.toList == ([] : List UInt8))) = true := c33
      try have c28 : (a0_0 == 3 && a0_1.toList.isEmpty) = true := by (have h_ := c25; (repeat rw [sqy] at h_); exact h_)
      (try (have c29 : decide (a0_0 = 3 && (a0_1.toList == ([] : List UInt8))) = true := by simpa using c33))
      (try (have c31 : (a0_0 == 3 && (a0_1.toList == ([] : List UInt8))) = true := by simpa using c33))
      clear c33
      obtain rfl := sqo H
      have := N0.1
      have := N1.1
      obtain ⟨_, _, _, _⟩ := sqY2 B0
      go_wp2
      go_ret
      exact ⟨Z5, sqB2 HB E0 E1⟩
     rw [if_neg c33] at H
     have c25 : (a0_0 == 3 && (a0_1.toList == ([] : List UInt8))) = false := by simpa using c33
     try have c28 : (a0_0 == 3 && a0_1.toList.isEmpty) = false := by (have h_ := c25; (repeat rw [sqy] at h_); exact h_)
     (try (have c29 : decide (a0_0 = 3 && (a0_1.toList == ([] : List UInt8))) = false := by simpa using c33))
     (try (have c31 : (a0_0 == 3 && (a0_1.toList == ([] : List UInt8))) = false := by simpa using c33))
     (try (have c32 : ¬ (a0_0 = 3 && (a0_1.toList == ([] : List UInt8))) := by simpa using c33))
     clear c33
     by_cases c36 : (a0_0 == 4 && (a0_1.toList == ([] : List UInt8))) = true
     ·rw [if_pos c36] at H
      have c35 : (a0_0 == 4 && (a0_1.toList == ([] : List UInt8))) = true := c36
      try have c37 : (a0_0 == 4 && a0_1.toList.isEmpty) = true := by (have h_ := c35; (repeat rw [sqy] at h_); exact h_)
      (try (have c38 : decide (a0_0 = 4 && (a0_1.toList == ([] : List UInt8))) = true := by simpa using c36))
      (try (have c39 : (a0_0 == 4 && (a0_1.toList == ([] : List UInt8))) = true := by simpa using c36))
      clear c36
      obtain rfl := sqo H
      have := N0.1
      have := N1.1
      obtain ⟨_, _, _, _⟩ := sqY2 B0
      go_wp2
      go_ret
      exact ⟨Z5, sqB2 HB E0 E1⟩
     rw [if_neg c36] at H
     have c35 : (a0_0 == 4 && (a0_1.toList == ([] : List UInt8))) = false := by simpa using c36
     try have c37 : (a0_0 == 4 && a0_1.toList.isEmpty) = false := by (have h_ := c35; (repeat rw [sqy] at h_); exact h_)
     (try (have c38 : decide (a0_0 = 4 && (a0_1.toList == ([] : List UInt8))) = false := by simpa using c36))
     (try (have c39 : (a0_0 == 4 && (a0_1.toList == ([] : List UInt8))) = false := by simpa using c36))
     (try (have c40 : ¬ (a0_0 = 4 && (a0_1.toList == ([] : List UInt8))) := by simpa using c36))
     clear c36
     obtain rfl := sqo H
     have := N0.1
     have := N1.1
     obtain ⟨_, _, _, _⟩ := sqY2 B0
     go_wp2
     go_ret
     exact ⟨Z5, sqB2 HB E0 E1⟩

/-! ### spec_ReadDeed: function 86 -/
mutual
def spec_ReadDeed.j0 : Nat → ByteArray → List (S38) → Option (Int × ByteArray × Bool)
 | 0, _, _ => none
 | k + 1, x0, x5 => spec_ReadDeed.l0 k x0 x5 0
def spec_ReadDeed.l0 : Nat → ByteArray → List (S38) → Int → Option (Int × ByteArray × Bool)
 | 0, _, _, _ => none
 | k + 1, x0, x5, x6 => if x6 < (x5.length : Int) then (if x0.toList = ([] : List UInt8) then (spec_ReadDeed.l0 k x0 x5 (wrap64 (x6 + 1))) else (if 0 ≤ x6 then ((spec_DeedText.f k ((rd_T38 x5 x6).f0) ((rd_T38 x5 x6).f1)).bind fun t0 => (if t0.toList = x0.toList then (some ((rd_T38 x5 x6).f0, (rd_T38 x5 x6).f1, true)) else (spec_ReadDeed.l0 k x0 x5 (wrap64 (x6 + 1))))) else (none))) else (some (0, (⟨#[]⟩ : ByteArray), false))
end
def spec_ReadDeed.f (k : Nat) (a0 : ByteArray) : Option (Int × ByteArray × Bool) := (spec_l1Cut.f k a0 32).bind fun t0 => ((some (([(⟨2, (⟨#[]⟩ : ByteArray)⟩ : S38), (⟨3, (⟨#[]⟩ : ByteArray)⟩ : S38), (⟨4, (⟨#[]⟩ : ByteArray)⟩ : S38)] : List (S38)) : List (S38))).bind fun y0 => (if (t0.length : Int) = 2 then (if 1 < (t0.length : Int) then ((some (([(⟨0, rdOf ByteArray.empty t0 1⟩ : S38), (⟨1, rdOf ByteArray.empty t0 1⟩ : S38)] : List (S38)) : List (S38))).bind fun y1 => (if y0.length + y1.length < 5864062014805 then (spec_ReadDeed.j0 k a0 (y0 ++ y1)) else (none))) else (none)) else (spec_ReadDeed.j0 k a0 y0)))
abbrev spec_ReadDeed.M (k : Nat) : Prop := (∀ y0 y1, LeO (spec_ReadDeed.j0 k y0 y1) (spec_ReadDeed.j0 (k + 1) y0 y1)) ∧ (∀ y0 y1 y2, LeO (spec_ReadDeed.l0 k y0 y1 y2) (spec_ReadDeed.l0 (k + 1) y0 y1 y2))
theorem spec_ReadDeed.mono_t : ∀ k, spec_ReadDeed.M k → spec_ReadDeed.M (k + 1) ∧ ∀ a0, LeO (spec_ReadDeed.f k a0) (spec_ReadDeed.f (k + 1) a0) := by
  rintro k ⟨ih0, ih1⟩
  refine ⟨⟨?_, ?_⟩, ?_⟩ <;> intros <;> (first | unfold spec_ReadDeed.j0 | unfold spec_ReadDeed.l0 | unfold spec_ReadDeed.f) <;> repeat' (with_reducible first | exact ih0 _ _ | exact ih1 _ _ _ | exact spec_DeedText.mono _ _ _ | exact spec_l1Cut.mono _ _ _ | exact LeO.refl _ | exact LeO.none _ | refine LeO.ite ?_ ?_ | refine LeO.bind ?_ fun _ => ?_)
theorem spec_ReadDeed.mono_l : ∀ k, spec_ReadDeed.M k
 | 0 => ⟨fun _ _ r h => by simp [spec_ReadDeed.j0] at h, fun _ _ _ r h => by simp [spec_ReadDeed.l0] at h⟩
 | k + 1 => (spec_ReadDeed.mono_t k (spec_ReadDeed.mono_l k)).1
theorem spec_ReadDeed.mono a0 k : LeO (spec_ReadDeed.f k a0) (spec_ReadDeed.f (k + 1) a0) := (spec_ReadDeed.mono_t k (spec_ReadDeed.mono_l k)).2 a0
def spec_ReadDeed.T4 : Bool × List (List Nat × List Nat) := (true, [([], []), ([], []), ([1], [1]), ([2], [2]), ([3], [3]), ([], []), ([5], [5]), ([6], [6]), ([7], [7]), ([4, 8], [4, 8]), ([0, 9], [0, 9]), ([10, 10, 0, 1, 2, 3, 4, 5, 6, 7, 8, 9, 10], [0, 10])])
def spec_ReadDeed.B4 : List Nat := [0, 0, 2, 6, 14, 0, 32, 96, 224, 510, 1023, 2047]
theorem spec_ReadDeed.tab4 : rtab .any (opsOf f86 4) = spec_ReadDeed.T4 := by kernel_rfl
theorem spec_ReadDeed.bits4 : waitsOk spec_ReadDeed.T4.2 spec_ReadDeed.B4 = true := by kernel_rfl
theorem spec_ReadDeed.calls (k : Nat) (a0 : ByteArray) (r1 : Int) (r2 : ByteArray) (r3 : Bool) (w : World) (H : spec_ReadDeed.f k a0 = some (r1, r2, r3)) :
  Calls prog 86 #[.string a0] w fun e w' => e = .returned (.tuple #[.agg #[.int .i64 r1, .string r2], .bool r3]) ∧ Below w.heap.size w w' := by
 have hu38 := underlying38
 have HB := sqh w
 unfold spec_ReadDeed.f at H
 obtain ⟨t0, A2, H⟩ := sqD H
 obtain ⟨y0, hy0⟩ : ∃ y_ : List (S38), y_ = (([(⟨2, (⟨#[]⟩ : ByteArray)⟩ : S38), (⟨3, (⟨#[]⟩ : ByteArray)⟩ : S38), (⟨4, (⟨#[]⟩ : ByteArray)⟩ : S38)] : List (S38))) := ⟨_, rfl⟩
 replace H : (if (t0.length : Int) = 2 then (if 1 < (t0.length : Int) then ((some (([(⟨0, rdOf ByteArray.empty t0 1⟩ : S38), (⟨1, rdOf ByteArray.empty t0 1⟩ : S38)] : List (S38)) : List (S38))).bind fun y1 => (if y0.length + y1.length < 5864062014805 then (spec_ReadDeed.j0 k a0 (y0 ++ y1)) else (none))) else (none)) else (spec_ReadDeed.j0 k a0 y0)) = some (r1, r2, r3) := sqW hy0 H
 have Ny0 := sqa hy0
 clear hy0
 have HC3 := sqa H
 clear H
 go_enter func86, ntmps86
 go_upto_if 15 with (first | ((with_reducible refine sqd 2 rfl ?_); refine sqBx w (sqB HB) (cs := #[.int .i64 0, .string (⟨#[]⟩ : ByteArray)]) (t := 38) ?_; intro g0 hg w4 B0 E0 HB hb; clear hb hg) | ((with_reducible refine sqc 99 rfl ?_); refine sqC (some 8) func99 #[.string a0, .int .u8 32] ?_; (with_reducible refine (spec_l1Cut.calls k a0 32 t0 _ A2.1).mono ?_); rintro e w5 ⟨v0, rfl, ho0, hb⟩; refine ⟨_, rfl, ?_⟩; have O0 := sqL ho0 (sqB1 HB E0); replace B0 := sqT B0 hb; replace HB := sqS (sqB1 HB E0) hb; (try clear ho0)) | ((with_reducible refine sqd 12 rfl ?_); refine Kd.R_lit k38 _ 38 ?hg (N := 12) ?hd (xs := ([(⟨2, (⟨#[]⟩ : ByteArray)⟩ : S38), (⟨3, (⟨#[]⟩ : ByteArray)⟩ : S38), (⟨4, (⟨#[]⟩ : ByteArray)⟩ : S38)] : List (S38))) (inner := [.int .i64 2, .string (⟨#[]⟩ : ByteArray), .int .i64 3, .string (⟨#[]⟩ : ByteArray), .int .i64 4, .string (⟨#[]⟩ : ByteArray)]) (ok := fun _ => True) (okp := fun _ => True) ?hr ?hp (fun _ hk => hk) trivial (Below.refl _ _) (Nat.le_refl _) (by simp) ?_; (case hd => rfl); (case hg => rfl); (case hr => exact Z17); (case hp => exact (Reps.c2 (show Kd.M k38 _ _ _ (⟨2, (⟨#[]⟩ : ByteArray)⟩ : S38) [.int .i64 2, .string (⟨#[]⟩ : ByteArray)] from (k38_mkM _ _ _ (⟨2, (⟨#[]⟩ : ByteArray)⟩ : S38) )) (Reps.c2 (show Kd.M k38 _ _ _ (⟨3, (⟨#[]⟩ : ByteArray)⟩ : S38) [.int .i64 3, .string (⟨#[]⟩ : ByteArray)] from (k38_mkM _ _ _ (⟨3, (⟨#[]⟩ : ByteArray)⟩ : S38) )) (Reps.c2 (show Kd.M k38 _ _ _ (⟨4, (⟨#[]⟩ : ByteArray)⟩ : S38) [.int .i64 4, .string (⟨#[]⟩ : ByteArray)] from (k38_mkM _ _ _ (⟨4, (⟨#[]⟩ : ByteArray)⟩ : S38) )) (Reps.none _ _))))); intro v1 w6 ho7 hb hg_ hnew_; clear hg_ hnew_; (first | rw [← Ny0.out] at ho7 | (simp only [Int.reduceToNat] at ho7; rw [← Ny0.out] at ho7)); replace O0 := sqU O0 hb; have O1 := sqa (Kd.R_lower (Kd.R_newB ho7 (sqK B0)) (below_size (sqB1 HB E0))); replace B0 := sqT B0 hb; replace HB := sqS (sqB1 HB E0) hb; clear hb ho7; obtain ⟨Ao8, co8, eo8⟩ := Kd.R_slice O0.1; subst eo8))
 (try simp only [Act.put, List.setIfInBounds_toArray, List.set_cons_zero, List.set_cons_succ])
 go_cut [5] (fun v5 wc => ∃ (kq : Nat) (x5_2 : List (S38)), Aside0 (spec_ReadDeed.j0 kq a0 x5_2 = some (r1, r2, r3)) ∧ Aside0 (kq ≤ k) ∧ Aside0 (Kd.R k38 38 wc w.heap.size (fun k_ => k_ ≠ g0) v5 x5_2) ∧ Aside0 (wc.heap[g0]? = some (.cells #[.int .i64 0, .string (⟨#[]⟩ : ByteArray)] 38 (0, 0))) ∧ Aside0 (Below w.heap.size w wc))
 case first =>
  have H := HC3.1
  clear HC3
  by_cases c9 : (t0.length : Int) = 2
  ·rw [if_pos c9] at H
   have c9b0 : ((t0.length : Int) == 2) = true := sqe1 c9
   have c9b1 : ((t0.length : Int) != 2) = false := sqn0 c9
   clear c9
   (first | rw [c9b0] | (simp only [i64_w, i32_w]; rw [c9b0]) | skip)
   obtain ⟨c10, H⟩ := sqI H
   have c0 : decide (1 < (t0.length : Int)) = true := decide_eq_true c10
   have c1 : decide (1 < t0.length) = true := decide_eq_true (by omega)
   clear c10
   obtain ⟨y1, hy1⟩ : ∃ y_ : List (S38), y_ = (([(⟨0, rdOf ByteArray.empty t0 1⟩ : S38), (⟨1, rdOf ByteArray.empty t0 1⟩ : S38)] : List (S38))) := ⟨_, rfl⟩
   replace H : (if y0.length + y1.length < 5864062014805 then (spec_ReadDeed.j0 k a0 (y0 ++ y1)) else (none)) = some (r1, r2, r3) := sqW hy1 H
   have Ny1 := sqa hy1
   clear hy1
   obtain ⟨c3, H⟩ := sqI H
   have LMc0 := sqa c3
   clear c3
   obtain ⟨y2, hy2⟩ : ∃ y_ : List (S38), y_ = (y0 ++ y1) := ⟨_, rfl⟩
   replace H : (spec_ReadDeed.j0 k a0 y2) = some (r1, r2, r3) := sqW hy2 H
   have Ny2 := sqa hy2
   clear hy2
   have H' := sqa H
   clear H
   try go_wp2
   replace O0 := sqa (Kd.R_drew O0.1)
   replace O1 := sqa (Kd.R_drew O1.1)
   replace B0 := sqa (blk_drew B0.1)
   replace HB := sqa (below_drew1 HB.1)
   have p0 : 0 ≤ (1 : Int) := (by omega)
   have q0 : 1 < (t0.length : Int) := of_decide_eq_true Z16
   obtain ⟨ad0, e0, hx0⟩ := Kd.at_string (Kd.R_reads' O0.1).2.2 1 p0 q0
   cases e0
   (try simp only [show (1 : Int).toNat = 1 from rfl, Nat.reduceMul, Nat.reduceEqDiff, Go.Addr.add, ↓reduceIte] at hx0)
   have qi0 : (1 < t0.length) = True := eq_true (by omega)
   (try rw [show ((1 : Int)).toNat = 1 from rfl] at hx0)
   replace p0 := eq_true p0
   replace q0 := eq_true q0
   have p1 : 0 ≤ (1 : Int) := (by omega)
   have q1 : 1 < (t0.length : Int) := of_decide_eq_true Z16
   obtain ⟨ad1, e1, hx1⟩ := Kd.at_string (Kd.R_reads' O0.1).2.2 1 p1 q1
   obtain rfl : ad0 = ad1 := (by injection e1)
   (try simp only [show (1 : Int).toNat = 1 from rfl, Nat.reduceMul, Nat.reduceEqDiff, Go.Addr.add, ↓reduceIte] at hx1)
   have qi1 : (1 < t0.length) = True := eq_true (by omega)
   (try rw [show ((1 : Int)).toNat = 1 from rfl] at hx1)
   replace p1 := eq_true p1
   replace q1 := eq_true q1
   refine start_ (n := 12) (S := fun w' => w'.cell? ⟨ad0.block, ad0.off + 1, none⟩ = some (.string (rdOf ByteArray.empty t0 1)) ∧ w'.cell? ⟨ad0.block, ad0.off + 1, none⟩ = some (.string (rdOf ByteArray.empty t0 1))) (ds := [10]) #[false, false, false, false, false, false, false, false, false, false, false, false] (by kernel_rfl) rfl rfl ⟨hx0, hx1⟩ (fun hHeld => ?_); refine with_tabW spec_ReadDeed.tab4 spec_ReadDeed.bits4 (fun HT_ HW_ => ?_)
   generalize w6.drew = w1 at O0 O1 B0 HB hx0 hx1 hHeld ⊢
   refine sqP 0 (some 16) (h := ?_)
   refine sqP 1 (some 17) (h := ?_)
   refine sqP 2 (some 18) (h := ?_)
   refine sqP 5 (some 21) (h := ?_)
   refine sqP 6 (some 22) (h := ?_)
   refine sqQ 3 (some 19) hHeld (h := ?_)
   refine sqP 4 (some 20) (h := ?_)
   refine sqQ 7 (some 23) hHeld (h := ?_)
   refine sqP 8 (some 24) (h := ?_)
   refine sq1 9 (some 25) (h := fun K hK => ?_)
   refine Kd.R_lit_step k38 _ 38 ?hg (N := 25) ?hd (xs := ([(⟨0, rdOf ByteArray.empty t0 1⟩ : S38), (⟨1, rdOf ByteArray.empty t0 1⟩ : S38)] : List (S38))) (inner := [.int .i64 0, .string (rdOf ByteArray.empty t0 1), .int .i64 1, .string (rdOf ByteArray.empty t0 1)]) (ok := fun _ => True) (okp := fun _ => True) ?hr ?hp (fun _ hk => hk) trivial (Below.refl _ _) (Nat.le_refl _) (by simp) ?_; (case hd => rfl); (case hg => rfl); (case hr => exact Z17); (case hp => exact (Reps.c2 (show Kd.M k38 _ _ _ (⟨0, rdOf ByteArray.empty t0 1⟩ : S38) [.int .i64 0, .string (rdOf ByteArray.empty t0 1)] from (k38_mkM _ _ _ (⟨0, rdOf ByteArray.empty t0 1⟩ : S38) )) (Reps.c2 (show Kd.M k38 _ _ _ (⟨1, rdOf ByteArray.empty t0 1⟩ : S38) [.int .i64 1, .string (rdOf ByteArray.empty t0 1)] from (k38_mkM _ _ _ (⟨1, rdOf ByteArray.empty t0 1⟩ : S38) )) (Reps.none _ _))))
   intro v2 w2 ho1 hb hg_ hnew_
   have HS0_ := (hb.cell (World.block_lt_of_cell? _ _ (hHeld.1))).trans (hHeld.1)
   have HS1_ := (hb.cell (World.block_lt_of_cell? _ _ (hHeld.2))).trans (hHeld.2)
   clear hg_ hnew_
   (first | rw [← Ny1.out] at ho1 | (simp only [Int.reduceToNat] at ho1; rw [← Ny1.out] at ho1))
   replace O0 := sqU O0 hb
   have O2 := sqa (Kd.R_lower (Kd.R_newB (Kd.R_new' ho1 (Kd.R_lt (sqR O1))) (sqK B0)) (below_size (sqB1 HB E0)))
   replace O1 := sqa (Kd.R_elder' (sqR O1) (Kd.R_base ho1) hb)
   replace B0 := sqT B0 hb
   replace HB := sqS (sqB1 HB E0) hb
   clear hb ho1
   obtain ⟨Ao0, co0, eo0⟩ := Kd.R_slice O2.1
   (first | subst eo0 | (injection eo0 with f1_ f2_ f3_; have f4_ := f1_.symm; have f5_ := f3_.symm; clear f1_ f2_ f3_; subst f4_; subst f5_))
   refine hK.out _ _ ⟨HS0_, HS1_⟩ (fun hHeld => ?_)
   clear hK K
   refine sqN (some 25) ?_
   refine last_ (i := 10) (N := some 26) #[true, true, true, true, true, true, true, true, true, true, true, false] rfl rfl (one_of HT_.out (by kernel_rfl)) (by decide) (fun K hK => ?_)
   refine Kd.R_append_rows_step k38 (w0 := w) w.heap.size (by rfl) (.tmp 16) (.tmp 25) 52 38 (.agg #[(.int .i64 0), (.string ⟨#[]⟩)]) 24 rfl underlying52 info38 rfl (by decide) (by omega) v1 y0 y1 _ _ _ (fun k_ => some k_ ≠ (.slice Ao0 y1.length co0 : Value).ownBlock ∧ k_ ≠ g0) (fun _ => False) rfl rfl ?aO ?aR (fun _ _ h => h) (fun _ h => h.elim) ?aF ?aB ?aS ?aL ?_
   (case aR => exact Z7 O2)
   (case aB => exact (sqB1 HB E0))
   (case aF => exact (fun k_ hk => ⟨Kd.fresh' (Kd.R_lt (sqR O2)) k_ hk, Kd.freshB (sqK B0) k_ hk⟩))
   (case aO => exact (Z48 O1))
   (case aS => exact (below_size (sqB1 HB E0)))
   (case aL => exact Z2 LMc0)
   intro v3 w3 ho hb hg hat
   rw [← Ny2.out] at ho
   replace B0 := sqa (blk_grown (sqK B0) hg (Kd.R_away O1.1 (fun _ hk => hk.1.2)))
   replace O0 := sqa (Kd.R_over' (sqR O0) (Kd.R_typed (sqR O1)) (by decide) hg)
   replace O2 := sqa (Kd.R_after (ok := (fun k_ => k_ ≠ g0)) (Z48 O2) hg hat)
   replace HB := sqa (hb)
   have O3 := sqa (ho)
   clear O1
   clear ho hb hg hat
   refine hK.out _ _ ?_
   clear hK K
   refine sqN (some 26) ?_
   refine sqP 11 (some 5) (h := ?_)
   refine done_ (done_of HT_.out (by kernel_rfl)) ?_
   try go_wp2
   go_meet
   case rel => exact ⟨_, (y2), H', ⟨Z11⟩, ⟨Z49 O3⟩, ⟨sqK B0⟩, ⟨sqB1 HB E0⟩⟩
  rw [if_neg c9] at H
  have c9b0 : ((t0.length : Int) == 2) = false := sqe0 c9
  have c9b1 : ((t0.length : Int) != 2) = true := sqn1 c9
  (first | rw [c9b0] | (simp only [i64_w, i32_w]; rw [c9b0]) | skip)
  have H' := sqa H
  clear H
  go_wp2
  go_meet
  case rel => exact ⟨_, (y0), H', ⟨Z11⟩, ⟨Z49 O1⟩, ⟨sqK B0⟩, ⟨sqB1 HB E0⟩⟩
 case rest =>
  clear HC3
  obtain ⟨kq, x5_2, HA, HJ2, O4, B0, HB⟩ := hcut
  cases kq with
  | zero => exact absurd HA.out (by simp [spec_ReadDeed.j0])
  | succ kj2 =>
   have H := HA.out
   clear HA
   simp only [spec_ReadDeed.j0] at H
   have H' := sqa H
   clear H
   go_wp2
   go_loopg [6] kj2 (fun kq v6 w' => ∃ (x6_2 : Int) (x0 : Int) (x1 : ByteArray), v6 = .int .i64 x6_2 ∧ Aside0 (spec_ReadDeed.l0 kq a0 x5_2 x6_2 = some (r1, r2, r3)) ∧ Aside0 (kq ≤ kj2) ∧ Aside0 (Kd.R k38 38 w' w.heap.size (fun k_ => k_ ≠ g0) u5 x5_2) ∧ Aside0 (w'.heap[g0]? = some (.cells #[.int .i64 x0, .string x1] 38 (0, 0))) ∧ Aside0 (Below w.heap.size w w'))
   case atStart => exact ⟨(0), (0), ((⟨#[]⟩ : ByteArray)), Z1, H', ⟨Nat.le_refl _⟩, ⟨sqR O4⟩, ⟨sqK B0⟩, ⟨sqB1 HB E0⟩⟩
   case round =>
    clear H'
    obtain ⟨x6_2, x0, x1, rfl, HA, HK2, O4, B0, HB⟩ := hrel
    cases gk with
    | zero => exact absurd HA.out (by simp [spec_ReadDeed.l0])
    | succ k2 =>
     have H := HA.out
     clear HA
     simp only [spec_ReadDeed.l0] at H
     by_cases c4 : x6_2 < (x5_2.length : Int)
     ·rw [if_pos c4] at H
      have c5 : decide (x6_2 < (x5_2.length : Int)) = true := decide_eq_true c4
      clear c4
      by_cases c6 : a0.toList = ([] : List UInt8)
      ·rw [if_pos c6] at H
       have c7 := sqe1 c6
       try have c8 : a0.toList.isEmpty = true := by (have h_ := c7; (repeat rw [sqy] at h_); exact h_)
       have c12 := sqn0 c6
       clear c6
       have H' := sqa H
       clear H
       obtain ⟨Ao1, co1, eo1⟩ := Kd.R_slice O4.1
       subst eo1
       go_wp2
       go_roundg k2
       case measure => have := HJ2.out; have := HK2.out; omega
       case rel => exact ⟨(wrap64 (x6_2 + 1)), (x0), (x1), Z1, H', ⟨by have := HJ2.out; have := HK2.out; omega⟩, ⟨sqR O4⟩, ⟨sqK B0⟩, ⟨sqB1 HB E0⟩⟩
      rw [if_neg c6] at H
      have c7 := sqe0 c6
      try have c8 : a0.toList.isEmpty = false := by (have h_ := c7; (repeat rw [sqy] at h_); exact h_)
      have c12 := sqn1 c6
      obtain ⟨c20, H⟩ := sqI H
      have c13 : decide (0 ≤ x6_2) = true := decide_eq_true c20
      clear c20
      obtain ⟨t1, A0, H⟩ := sqD H
      by_cases c22 : t1.toList = a0.toList
      ·rw [if_pos c22] at H
       have c15 := sqe1 c22
       have c16 := sqn0 c22
       clear c22
       obtain ⟨rfl, rfl, rfl⟩ := sqO3 H
       obtain ⟨Ao2, co2, eo2⟩ := Kd.R_slice O4.1
       subst eo2
       have p2 : 0 ≤ (x6_2 : Int) := of_decide_eq_true Z16
       have q2 : x6_2 < (x5_2.length : Int) := of_decide_eq_true Z16
       obtain ⟨ad2, e2, hx2, hx3⟩ := at_T38 (Kd.R_reads' O4.1).2.2 x6_2 p2 q2
       cases e2
       replace p2 := eq_true p2
       replace q2 := eq_true q2
       go_wp2_with (first | (go_at_call 122; (with_reducible refine (spec_DeedText.calls k2 ((rd_T38 x5_2 x6_2).f0) ((rd_T38 x5_2 x6_2).f1) t1 _ A0.1).mono ?_); rintro e w7 ⟨rfl, hb⟩; replace O4 := sqU O4 hb; replace B0 := sqT B0 hb; replace HB := sqS (sqB1 HB E0) hb; have p3 : 0 ≤ (x6_2 : Int) := of_decide_eq_true Z16; have q3 : x6_2 < (x5_2.length : Int) := of_decide_eq_true Z16; obtain ⟨ad3, e3, hx4, hx5⟩ := at_T38 (Kd.R_reads' O4.1).2.2 x6_2 p3 q3; obtain rfl : ad2 = ad3 := (by injection e3); replace p3 := eq_true p3; replace q3 := eq_true q3; obtain ⟨_, _, _, _⟩ := sqY2 B0))
       refine sqE g0 38 #[.int .i64 ((rd_T38 x5_2 x6_2).f0), .string ((rd_T38 x5_2 x6_2).f1)] (by refine sqPut (cs := #[.int .i64 ((rd_T38 x5_2 x6_2).f0), .string x1]) ?_ 1; refine sqPut (cs := #[.int .i64 x0, .string x1]) ?_ 0; exact sqK B0) underlying38 ?_
       exact ⟨Z5, sqB1 HB E0⟩
      rw [if_neg c22] at H
      have c15 := sqe0 c22
      have c16 := sqn1 c22
      have H' := sqa H
      clear H
      obtain ⟨Ao3, co3, eo3⟩ := Kd.R_slice O4.1
      subst eo3
      have p2 : 0 ≤ (x6_2 : Int) := of_decide_eq_true Z16
      have q2 : x6_2 < (x5_2.length : Int) := of_decide_eq_true Z16
      obtain ⟨ad2, e2, hx2, hx3⟩ := at_T38 (Kd.R_reads' O4.1).2.2 x6_2 p2 q2
      cases e2
      replace p2 := eq_true p2
      replace q2 := eq_true q2
      go_wp2_with (first | (go_at_call 122; (with_reducible refine (spec_DeedText.calls k2 ((rd_T38 x5_2 x6_2).f0) ((rd_T38 x5_2 x6_2).f1) t1 _ A0.1).mono ?_); rintro e w8 ⟨rfl, hb⟩; replace O4 := sqU O4 hb; replace B0 := sqT B0 hb; replace HB := sqS (sqB1 HB E0) hb))
      go_roundg k2
      case measure => have := HJ2.out; have := HK2.out; omega
      case rel => exact ⟨(wrap64 (x6_2 + 1)), (x0), (x1), Z1, H', ⟨by have := HJ2.out; have := HK2.out; omega⟩, ⟨sqR O4⟩, ⟨sqK B0⟩, ⟨sqB1 HB E0⟩⟩
     rw [if_neg c4] at H
     have c5 : decide (x6_2 < (x5_2.length : Int)) = false := decide_eq_false c4
     clear c4
     obtain ⟨rfl, rfl, rfl⟩ := sqO3 H
     obtain ⟨Ao4, co4, eo4⟩ := Kd.R_slice O4.1
     subst eo4
     obtain ⟨_, _, _, _⟩ := sqY2 B0
     go_wp2
     refine sqE g0 38 #[.int .i64 0, .string (⟨#[]⟩ : ByteArray)] (by refine sqPut (cs := #[.int .i64 0, .string x1]) ?_ 1; refine sqPut (cs := #[.int .i64 x0, .string x1]) ?_ 0; exact sqK B0) underlying38 ?_
     exact ⟨Z5, sqB1 HB E0⟩

/-! ### spec_l3Under: function 173 -/
def spec_l3Under.f (a0_0 : Int) (a0_1 : Int) : Option (Int) := if a0_1 = 0 then (none) else (if (wrap64 ((wrap64 (Int.tdiv a0_0 a0_1)) * a0_1)) > a0_0 then (some (wrap64 ((wrap64 (Int.tdiv a0_0 a0_1)) - 1))) else (some (wrap64 (Int.tdiv a0_0 a0_1))))
theorem spec_l3Under.calls (a0_0 : Int) (a0_1 : Int) (r : Int) (w : World) (H : spec_l3Under.f a0_0 a0_1 = some r) :
  Calls prog 173 #[.agg #[.int .i64 a0_0, .int .i64 a0_1]] w fun e w' => e = .returned (.int .i64 r) ∧ Below w.heap.size w w' := by
 have hu31 := underlying31
 have HB := sqh w
 unfold spec_l3Under.f at H
 by_cases c2 : a0_1 = 0
 ·rw [if_pos c2] at H
  exact absurd H (by simp)
 rw [if_neg c2] at H
 have c2b0 : (a0_1 == 0) = false := sqe0 c2
 have c2b1 : (a0_1 != 0) = true := sqn1 c2
 by_cases c3 : (wrap64 ((wrap64 (Int.tdiv a0_0 a0_1)) * a0_1)) > a0_0
 ·rw [if_pos c3] at H
  have c3b0 : decide (a0_0 < (wrap64 ((wrap64 (Int.tdiv a0_0 a0_1)) * a0_1))) = true := decide_eq_true c3
  clear c3
  obtain rfl := sqo H
  go_enter func173, ntmps173
  go_wp2_with (first | ((with_reducible refine sqd 1 rfl ?_); refine sqBx w (sqB HB) (cs := #[.int .i64 a0_0, .int .i64 a0_1]) (t := 31) ?_; intro g0 hg w4 B0 E0 HB hb; clear hb hg; obtain ⟨_, _, _, _⟩ := sqY2 B0))
  go_ret
  exact ⟨Z5, sqB1 HB E0⟩
 rw [if_neg c3] at H
 have c3b0 : decide (a0_0 < (wrap64 ((wrap64 (Int.tdiv a0_0 a0_1)) * a0_1))) = false := decide_eq_false c3
 clear c3
 obtain rfl := sqo H
 go_enter func173, ntmps173
 go_wp2_with (first | ((with_reducible refine sqd 1 rfl ?_); refine sqBx w (sqB HB) (cs := #[.int .i64 a0_0, .int .i64 a0_1]) (t := 31) ?_; intro g0 hg w6 B0 E0 HB hb; clear hb hg; obtain ⟨_, _, _, _⟩ := sqY2 B0))
 go_ret
 exact ⟨Z5, sqB1 HB E0⟩
end
end Go.Proofs.YtofmlbgfcohhoaaGreatDoor.PFnDeskLine
