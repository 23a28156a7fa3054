import Derived.Test.YtofmlbgfcohhoaaGreatDoorPFnReadJournalx9
set_option maxHeartbeats 8000000
set_option maxRecDepth 100000
namespace Go.Proofs.YtofmlbgfcohhoaaGreatDoor.PFnReadJournal
open Go.RowKit Go.Proofs.YtofmlbgfcohhoaaGreatDoorW.PrintWords Go.Proofs.YtofmlbgfcohhoaaGreatDoorW.PrintLast Go.Proofs.YtofmlbgfcohhoaaGreatDoorW.PrintMore Go.Proofs.YtofmlbgfcohhoaaGreatDoor.Lib Go.Proofs.Tryz
attribute [local go_sem] max2_int min2_int max_two min_two max_three min_three max_four min_four
set_option linter.unusedVariables false
set_option linter.unusedSimpArgs false

section
attribute [local go_sem high] eqA31 eqA38
mutual
def F13.j0 : Nat → Bool → Int → Int → List (S31) → Int → ByteArray → Int → Int → List (S31) → Option (Int × Int × (List (S31)) × Bool)
 | 0, _, _, _, _, _, _, _, _, _ => none
 | k + 1, x0, x1, x2, x3, x4, x5, x6, x7, x8 => if x0 = true then (if 0 ≤ (wrap64 ((x8.length : Int) - 1)) then (if (wrap64 ((x8.length : Int) - 1)) < (x8.length : Int) then (if (wrap64 ((x8.length : Int) - 1)) ≤ (x8.length : Int) then (some ((rd_T31 x8 (wrap64 ((x8.length : Int) - 1))).f0, (rd_T31 x8 (wrap64 ((x8.length : Int) - 1))).f1, (x8.take ((wrap64 ((x8.length : Int) - 1)) : Int).toNat), true)) else (none)) else (none)) else (none)) else ((F65.f k x1 x2 x4 x5).bind fun bt0 => (if bt0.2.2 = true then (F13.j1 k (bt0.1 == x1 && (bt0.2.1 == x2)) x6 x7 x8 bt0.1 bt0.2.1) else (F13.j1 k true x6 x7 x8 bt0.1 bt0.2.1)))
def F13.j1 : Nat → Bool → Int → Int → List (S31) → Int → Int → Option (Int × Int × (List (S31)) × Bool)
 | 0, _, _, _, _, _, _ => none
 | k + 1, x0, x1, x2, x3, x4, x5 => if x0 = true then (some (x1, x2, x3, false)) else (if x3.length < 8796093022208 then ((some (x3 ++ [(⟨x1, x2⟩ : S31)] : List (S31))).bind fun y0 => (if (y0.length : Int) > 8 then (if 1 ≤ (y0.length : Int) then (some (x4, x5, (y0.drop (1 : Int).toNat), true)) else (none)) else (some (x4, x5, y0, true)))) else (none))
end
def F13.f (k : Nat) (a0_0 : Int) (a0_1 : Int) (l0_2 : List (S31)) (a1_0 : Int) (a1_1 : ByteArray) : Option (Int × Int × (List (S31)) × Bool) := (F18.f k a0_0 a0_1 l0_2).bind fun t0 => (if t0 = true then ((F64.f a0_0 a0_1 l0_2).bind fun bt0 => (if (a1_0 == 4 && (a1_1.toList == ([] : List UInt8))) = true then (F13.j0 k (decide ((l0_2.length : Int) > 0)) a0_0 a0_1 l0_2 a1_0 a1_1 bt0.1 bt0.2.1 bt0.2.2) else (F13.j0 k false a0_0 a0_1 l0_2 a1_0 a1_1 bt0.1 bt0.2.1 bt0.2.2))) else (some (0, 0, ([] : List (S31)), false)))
abbrev F13.M (k : Nat) : Prop := (∀ y0 y1 y2 y3 y4 y5 y6 y7 y8, LeO (F13.j0 k y0 y1 y2 y3 y4 y5 y6 y7 y8) (F13.j0 (k + 1) y0 y1 y2 y3 y4 y5 y6 y7 y8)) ∧ (∀ y0 y1 y2 y3 y4 y5, LeO (F13.j1 k y0 y1 y2 y3 y4 y5) (F13.j1 (k + 1) y0 y1 y2 y3 y4 y5))
theorem F13.mt : ∀ k, F13.M k → F13.M (k + 1) ∧ ∀ a0 a1 a2 a3 a4, LeO (F13.f k a0 a1 a2 a3 a4) (F13.f (k + 1) a0 a1 a2 a3 a4) := by
  rintro k ⟨ih0, ih1⟩
  refine ⟨⟨?_, ?_⟩, ?_⟩ <;> intros <;> (first | unfold F13.j0 | unfold F13.j1 | unfold F13.f) <;> repeat' (with_reducible first | exact ih0 _ _ _ _ _ _ _ _ _ | exact ih1 _ _ _ _ _ _ | exact F18.m _ _ _ _ | exact F65.m _ _ _ _ _ | exact LeO.refl _ | exact LeO.none _ | refine LeO.ite ?_ ?_ | refine LeO.bind ?_ fun _ => ?_)
theorem F13.ml : ∀ k, F13.M k
 | 0 => ⟨fun _ _ _ _ _ _ _ _ _ r h => by simp [F13.j0] at h, fun _ _ _ _ _ _ r h => by simp [F13.j1] at h⟩
 | k + 1 => (F13.mt k (F13.ml k)).1
theorem F13.m a0 a1 a2 a3 a4 k : LeO (F13.f k a0 a1 a2 a3 a4) (F13.f (k + 1) a0 a1 a2 a3 a4) := (F13.mt k (F13.ml k)).2 a0 a1 a2 a3 a4
theorem F13.c (k : Nat) (a0_0 : Int) (a0_1 : Int) (A0_2 : Option Addr) (c0_2 : Nat) (l0_2 : List (S31)) (a1_0 : Int) (a1_1 : ByteArray) (r1 : Int) (r2 : Int) (r3 : List (S31)) (r4 : Bool) (w : World) (hr0_2 : Kd.C k31 w A0_2 l0_2.length l0_2) (hc0_2 : l0_2.length ≤ c0_2) (H : F13.f k a0_0 a0_1 l0_2 a1_0 a1_1 = some (r1, r2, r3, r4)) :
  Calls prog 14 #[.agg #[.int .i64 a0_0, .int .i64 a0_1, .slice A0_2 l0_2.length c0_2], .agg #[.int .i64 a1_0, .string a1_1]] w fun e w' => ∃ v2_ : Value, e = .returned (.tuple #[.agg #[.int .i64 r1, .int .i64 r2, v2_], .bool r4]) ∧ Kd.Q k31 31 w' w.heap.size (fun _ => True) v2_ r3 ∧ Below w.heap.size w w' := by
 have hu34 := underlying34
 have hu38 := underlying38
 have hu31 := underlying31
 have HR0_2 := sqa hr0_2
 have HC0_2 := sqa hc0_2
 clear hr0_2 hc0_2
 have HB := sqh w
 unfold F13.f at H
 obtain ⟨t0, A3, H⟩ := sqD H
 by_cases c4 : t0 = true
 ·subst c4
  rw [if_pos rfl] at H
  obtain ⟨⟨t242, t243, t1⟩, A5, H⟩ := sqD H
  try dsimp only at H
  have HC6 := sqa H
  clear H
  go_enter func14, ntmps14
  go_upto_region 4 with (first | ((with_reducible refine sqd 2 rfl ?_); (try (refine gate_guard (by rfl) ?_; dsimp only)); refine sqBx w (sqB HB) (cs := #[.int .i64 a0_0, .int .i64 a0_1, .slice A0_2 l0_2.length c0_2]) (t := 34) ?_; intro g0 hg w7 B0 E0 HB hb; clear hb hg) | ((with_reducible refine sqd 3 rfl ?_); (try (refine gate_guard (by rfl) ?_; dsimp only)); refine sqBx w (sqB1 HB E0) (cs := #[.int .i64 a1_0, .string a1_1]) (t := 38) ?_; intro g1 hg w8 B2 E1 HB hb; obtain ⟨N0, N1⟩ := sqM hg B0; replace B0 := sqT B0 hb; clear hb hg) | ((with_reducible refine sqd 4 rfl ?_); (try (refine gate_guard (by rfl) ?_; dsimp only)); refine sqBx w (sqB2 HB E0 E1) (cs := #[.int .i64 0, .int .i64 0, .slice none 0 0]) (t := 34) ?_; intro g2 hg w9 B8 E2 HB hb; obtain ⟨N2, N3⟩ := sqM hg B0; replace B0 := sqT B0 hb; obtain ⟨N4, N5⟩ := sqM hg B2; replace B2 := sqT B2 hb; clear hb hg; have := sqn4 N0 N1 N2 N3; have := sqY3 B0) | ((with_reducible refine sqc 30 rfl ?_); refine sqC (some 11) func30 #[.agg #[.int .i64 a0_0, .int .i64 a0_1, .slice A0_2 l0_2.length c0_2]] ?_; (with_reducible refine (F18.c k a0_0 a0_1 _ _ l0_2 true _ ?side1 ?side2 A3.1).mono ?_); (case side1 => exact Z1); (case side2 => exact HC0_2.1); refine sqV fun w2 hb => ?_; obtain ⟨B0, B2, B8⟩ := sqT3 hb B0 B2 B8; replace HB := sqS (sqB3 HB E0 E1 E2) hb; have := sqY3 B0) | ((with_reducible refine sqc 56 rfl ?_); refine sqC (some 15) func56 #[.agg #[.int .i64 a0_0, .int .i64 a0_1, .slice A0_2 l0_2.length c0_2]] ?_; (with_reducible refine (F64.c a0_0 a0_1 _ _ l0_2 t242 t243 t1 _ ?side1 ?side2 A5.1).mono ?_); (case side1 => exact Z1); (case side2 => exact HC0_2.1); rintro e w3 ⟨v0, rfl, ho0, hb⟩; refine ⟨_, rfl, ?_⟩; have O0 := sqL ho0 (sqB3 HB E0 E1 E2); obtain ⟨B0, B2, B8⟩ := sqT3 hb B0 B2 B8; replace HB := sqS (sqB3 HB E0 E1 E2) hb; (try clear ho0)) | ((with_reducible refine sqd 6 rfl ?_); (try (refine gate_guard (by rfl) ?_; dsimp only)); refine sqBx w (sqB3 HB E0 E1 E2) (cs := #[.int .i64 0, .int .i64 0, .slice none 0 0]) (t := 34) ?_; intro g3 hg w4 B9 E3 HB hb; replace O0 := sqU O0 hb; obtain ⟨N6, N7⟩ := sqM hg B0; replace B0 := sqT B0 hb; obtain ⟨N8, N9⟩ := sqM hg B2; replace B2 := sqT B2 hb; obtain ⟨N10, N11⟩ := sqM hg B8; replace B8 := sqT B8 hb; clear hb hg; have := sqn6 N7 N6 N9 N8 N11 N10; have := sqY3 B9; obtain ⟨Ao0, co0, eo0⟩ := Kd.R_slice O0.1; subst eo0))
  (try simp only [Act.put, List.setIfInBounds_toArray, List.set_cons_zero, List.set_cons_succ])
  go_cut [24] (fun v24 wc => ∃ (kq : Nat) (x0 : Bool), v24 = .bool x0 ∧ Aside0 (F13.j0 kq x0 a0_0 a0_1 l0_2 a1_0 a1_1 t242 t243 t1 = some (r1, r2, r3, r4)) ∧ Aside0 (kq ≤ k) ∧ Aside0 (Kd.Q k31 31 wc w.heap.size (fun _ => True) (.slice Ao0 t1.length co0) t1) ∧ Aside0 (wc.heap[g0]? = some (.cells #[.int .i64 a0_0, .int .i64 a0_1, (.slice A0_2 l0_2.length c0_2)] 34 (0, 0))) ∧ Aside0 (wc.heap[g1]? = some (.cells #[.int .i64 a1_0, .string a1_1] 38 (0, 0))) ∧ Aside0 (wc.heap[g2]? = some (.cells #[.int .i64 0, .int .i64 0, (.slice none 0 0)] 34 (0, 0))) ∧ Aside0 (wc.heap[g3]? = some (.cells #[.int .i64 t242, .int .i64 t243, (.slice Ao0 t1.length co0)] 34 (0, 0))) ∧ Aside0 (Below w.heap.size w wc))
  case first =>
   have H := HC6.1
   clear HC6
   by_cases c0 : (a1_0 == 4 && (a1_1.toList == ([] : List UInt8))) = true
   ·rw [if_pos c0] at H
    have c2 : (a1_0 == 4 && (a1_1.toList == ([] : List UInt8))) = true := c0
    try have c3 : (a1_0 == 4 && a1_1.toList.isEmpty) = true := by (have h_ := c2; (repeat rw [sqy] at h_); exact h_)
    (try (have c5 : decide (a1_0 = 4 && (a1_1.toList == ([] : List UInt8))) = true := by simpa using c0))
    (try (have c6 : (a1_0 == 4 && (a1_1.toList == ([] : List UInt8))) = true := by simpa using c0))
    clear c0
    (first | rw [c2] | (simp only [i64_w, i32_w]; rw [c2]) | skip)
    have H' := sqa H
    clear H
    have := sqn6 N1 N0 N4 N5 N8 N9
    have := sqY2 B2
    have := sqn4 N2 N3 N6 N7
    have := sqY3 B0
    go_wp2
    go_meet
    case rel => exact ⟨_, (decide ((l0_2.length : Int) > 0)), Z2, H', ⟨Z3⟩, ⟨Kd.Q_of_R (Z4 O0 B9)⟩, ⟨Z5 N6 B0⟩, ⟨Z5 N8 B2⟩, ⟨Z5 N10 B8⟩, ⟨Z6 B9⟩, ⟨sqB4 HB E0 E1 E2 E3⟩⟩
   rw [if_neg c0] at H
   have c2 : (a1_0 == 4 && (a1_1.toList == ([] : List UInt8))) = false := by simpa using c0
   try have c3 : (a1_0 == 4 && a1_1.toList.isEmpty) = false := by (have h_ := c2; (repeat rw [sqy] at h_); exact h_)
   (try (have c5 : decide (a1_0 = 4 && (a1_1.toList == ([] : List UInt8))) = false := by simpa using c0))
   (try (have c6 : (a1_0 == 4 && (a1_1.toList == ([] : List UInt8))) = false := by simpa using c0))
   (try (have c7 : ¬ (a1_0 = 4 && (a1_1.toList == ([] : List UInt8))) := by simpa using c0))
   clear c0
   (first | rw [c2] | (simp only [i64_w, i32_w]; rw [c2]) | skip)
   have H' := sqa H
   clear H
   have := sqn6 N1 N0 N4 N5 N8 N9
   have := sqY2 B2
   go_wp2
   go_meet
   case rel => exact ⟨_, (false), Z2, H', ⟨Z3⟩, ⟨Kd.Q_of_R (Z4 O0 B9)⟩, ⟨Z5 N6 B0⟩, ⟨Z5 N8 B2⟩, ⟨Z5 N10 B8⟩, ⟨Z6 B9⟩, ⟨sqB4 HB E0 E1 E2 E3⟩⟩
  case rest =>
   clear HC6
   obtain ⟨kq, x0, rfl, HA, HJ5, O1, B0, B2, B8, B9, HB⟩ := hcut
   cases kq with
   | zero => exact absurd HA.out (by simp [F13.j0])
   | succ kj5 =>
    have H := HA.out
    clear HA
    simp only [F13.j0] at H
    by_cases c8 : x0 = true
    ·subst c8
     rw [if_pos rfl] at H
     obtain ⟨ji0, hji0⟩ : ∃ j_ : Int, (wrap64 ((t1.length : Int) - 1)) = j_ := ⟨_, rfl⟩
     replace H : (if 0 ≤ (ji0) then (if (ji0) < (t1.length : Int) then (if (ji0) ≤ (t1.length : Int) then (some ((rd_T31 t1 (ji0)).f0, (rd_T31 t1 (ji0)).f1, (t1.take ((ji0) : Int).toNat), true)) else (none)) else (none)) else (none)) = some (r1, r2, r3, r4) := by first | (rw [hji0] at H; exact H) | (simp only [hji0] at H ⊢; exact H)
     have hji1 : (IntKind.i64.wrap ((t1.length : Int) - 1)) = ji0 := (i64_w _).trans hji0
     obtain ⟨c9, H⟩ := sqI H
     have c10 : decide (0 ≤ (ji0)) = true := decide_eq_true c9
     clear c9
     obtain ⟨c37, H⟩ := sqI H
     have c11 : decide ((ji0) < (t1.length : Int)) = true := decide_eq_true c37
     clear c37
     obtain ⟨c38, H⟩ := sqI H
     have c13 := eq_true c38
     have c14 : decide ((ji0) ≤ (t1.length : Int)) = true := decide_eq_true c38
     clear c38
     obtain ⟨y0, hy0⟩ : ∃ y_ : List (S31), y_ = (t1.take ((ji0) : Int).toNat) := ⟨_, rfl⟩
     replace H : (some ((rd_T31 t1 (ji0)).f0, (rd_T31 t1 (ji0)).f1, y0, true)) = some (r1, r2, r3, r4) := sqW hy0 H
     have Ny0 := sqa hy0
     clear hy0
     obtain ⟨rfl, rfl, rfl, rfl⟩ := sqO4 H
     have := sqn6 N7 N6 N9 N8 N11 N10
     have := sqY3 B9
     have p0 : 0 ≤ ((ji0) : Int) := of_decide_eq_true Z7
     have q0 : (ji0) < (t1.length : Int) := of_decide_eq_true Z7
     obtain ⟨ad0, e0, hx0, hx1⟩ := at_T31 (Kd.Q_reads' O1.1).2.2 (ji0) p0 q0
     cases e0
     replace p0 := eq_true p0
     replace q0 := eq_true q0
     go_wp2_with (first | ((with_reducible refine gate_store (t := 31) (p := 34) rfl ?_); refine store_event (t := 31) (p := 34) (v := ?vo_w0) (w1 := ((wc.setCell ⟨g3, 0, none⟩ (.int .i64 ((rd_T31 t1 (ji0)).f0))).setCell ⟨g3, 1, none⟩ (.int .i64 ((rd_T31 t1 (ji0)).f1)))) ?hg ?ho ?hn ?hr ?_; (case ho => rfl); (case hg => rfl); (case hn => rfl); (case hr => exact Z8); intro w5 hw; replace O1 : Aside0 (Kd.Q k31 31 w5 w.heap.size (fun _ => True) (.slice (some ad0) t1.length co0) t1) := ⟨(by rw [hw]; exact (by (with_reducible repeat (first | apply Kd.Q_alloc | apply Kd.Q_drewN | apply Kd.Q_drew)); exact Kd.Q_mono (sqq2 O1.1 B9.1) (fun _ hk => trivial)))⟩; replace B0 : Aside0 (w5.heap[g0]? = some (.cells #[.int .i64 a0_0, .int .i64 a0_1, .slice A0_2 l0_2.length c0_2] 34 (0, 0))) := ⟨(by rw [hw]; exact (Z9 N6 B0))⟩; replace B2 : Aside0 (w5.heap[g1]? = some (.cells #[.int .i64 a1_0, .string a1_1] 38 (0, 0))) := ⟨(by rw [hw]; exact (Z9 N8 B2))⟩; replace B8 : Aside0 (w5.heap[g2]? = some (.cells #[.int .i64 0, .int .i64 0, .slice none 0 0] 34 (0, 0))) := ⟨(by rw [hw]; exact (Z9 N10 B8))⟩; replace B9 : Aside0 (w5.heap[g3]? = some (.cells #[.int .i64 ((rd_T31 t1 (ji0)).f0), .int .i64 ((rd_T31 t1 (ji0)).f1), .slice (some ad0) t1.length co0] 34 (0, 0))) := ⟨(by rw [hw]; exact (by refine sqPut (cs := #[.int .i64 ((rd_T31 t1 (ji0)).f0), .int .i64 t243, .slice (some ad0) t1.length co0]) ?_ 1; refine sqPut (cs := #[.int .i64 t242, .int .i64 t243, .slice (some ad0) t1.length co0]) ?_ 0; exact sqK B9))⟩; replace HB : Aside0 (Below w.heap.size w w5) := ⟨(by rw [hw]; exact (sqB4 HB E0 E1 E2 E3))⟩; clear hw; have hcz0 : w5.cell? ⟨g3, 0, none⟩ = some (.int .i64 ((rd_T31 t1 (ji0)).f0)) := (blk_cell B9.1 0).trans rfl; have hcz1 : w5.cell? ⟨g3, 1, none⟩ = some (.int .i64 ((rd_T31 t1 (ji0)).f1)) := (blk_cell B9.1 1).trans rfl; have hcz2 := sqZ B9 2 (.slice (some ad0) t1.length co0); have hfz0 := blk_frozen B9.1 0; have hfz1 := blk_frozen B9.1 1; have hfz2 := blk_frozen B9.1 2; have q1 : ((ji0) : Int) ≤ ((t1.length : Int) : Int) := of_decide_eq_true Z7; obtain ⟨i045, hi0, _, hsz0, _⟩ := info_parts info31; have hcut0 := cut_to (P := prog) 32 31 .i64 underlying32 hi0 (some ad0) t1.length co0 (ji0) (of_decide_eq_true Z7) q1 (Kd.Q_reads' O1.1).2.1; have hr0 := Kd.Q_take (m := ((ji0) : Int).toNat) O1.1 (by omega); have hy1 : y0.length = ((ji0) : Int).toNat := (by rw [Ny0.out, List.length_take]; omega); rw [← Ny0.out] at hr0; rw [← hy1] at hr0 hcut0; clear hy1 hi0 hsz0 O1; have O2 := sqa hr0; clear hr0; replace q1 := eq_true q1; have := sqn4 N3 N2 N5 N4; have := sqY3 B8))
     refine bodyPost_ret (results_ct rfl _ _ g2 34 #[.int .i64 ((rd_T31 t1 (ji0)).f0), .int .i64 ((rd_T31 t1 (ji0)).f1), .slice (some ad0) y0.length co0] (0, 0) _ rfl (by refine sqPut (cs := #[.int .i64 ((rd_T31 t1 (ji0)).f0), .int .i64 ((rd_T31 t1 (ji0)).f1), .slice none 0 0]) ?_ 2; refine sqPut (cs := #[.int .i64 ((rd_T31 t1 (ji0)).f0), .int .i64 0, .slice none 0 0]) ?_ 1; refine sqPut (cs := #[.int .i64 0, .int .i64 0, .slice none 0 0]) ?_ 0; refine sqFar ?_ N10; exact sqK B8) underlying34 rfl (by kernel_rfl)) rfl ?_
     exact ⟨_, by first | rfl | (simp [errP_none, errP_some] <;> rfl) | (simp only [← hji0]; first | rfl | (simp [errP_none, errP_some] <;> rfl)) | (simp [*, errP_none, errP_some] <;> rfl), (by (with_reducible repeat (first | apply Kd.Q_alloc | apply Kd.Q_drewN | apply Kd.Q_drew)); exact Kd.Q_mono (Kd.Q_far (p := ⟨g2, 2, none⟩) (Kd.Q_far (p := ⟨g2, 1, none⟩) (Kd.Q_far (p := ⟨g2, 0, none⟩) (Kd.Q_far (p := ⟨g3, 2, none⟩) (Kd.Q_types (Kd.Q_types O2.1 B9.1 (by decide)) B8.1 (by decide)) (fun _ hk => hk.1.2) (.slice (some ad0) y0.length co0)) (fun _ hk => hk.2) (.int .i64 ((rd_T31 t1 (ji0)).f0))) (fun _ hk => hk.2) (.int .i64 ((rd_T31 t1 (ji0)).f1))) (fun _ hk => hk.2) (.slice (some ad0) y0.length co0)) (fun _ hk => trivial)), sqB4 HB E0 E1 E2 E3⟩
    obtain rfl := sqb c8
    rw [if_neg sqF] at H
    obtain ⟨⟨t252, t253, t2⟩, A0, H⟩ := sqD H
    try dsimp only at H
    have HC0 := sqa H
    clear H
    have := sqn6 N0 N1 N2 N3 N6 N7
    have := sqY3 B0
    have := sqn4 N4 N5 N8 N9
    have := sqY2 B2
    go_upto_region 10 with (first | ((with_reducible refine sqc 57 rfl ?_); refine sqC (some 45) func57 #[.agg #[.int .i64 a0_0, .int .i64 a0_1], .agg #[.int .i64 a1_0, .string a1_1]] ?_; (with_reducible refine (F65.c kj5 a0_0 a0_1 a1_0 a1_1 t252 t253 t2 _ A0.1).mono ?_); refine sqV fun w6 hb => ?_; replace O1 := sqa (Kd.Q_below (Z10 O1) hb); obtain ⟨B0, B2, B8, B9⟩ := sqT4 hb B0 B2 B8 B9; replace HB := sqS (sqB4 HB E0 E1 E2 E3) hb) | ((with_reducible refine sqd 8 rfl ?_); (try (refine gate_guard (by rfl) ?_; dsimp only)); refine sqBx w (sqB4 HB E0 E1 E2 E3) (cs := #[.int .i64 0, .int .i64 0]) (t := 31) ?_; intro gb255 hg w59 B10 E4 HB hb; replace O1 := sqa (Kd.Q_below (Kd.Q_elderB (Z10 O1) gb255 (Nat.le_of_eq hg.symm)) hb); obtain ⟨N12, N13⟩ := sqM hg B0; replace B0 := sqT B0 hb; obtain ⟨N14, N15⟩ := sqM hg B2; replace B2 := sqT B2 hb; obtain ⟨N16, N17⟩ := sqM hg B8; replace B8 := sqT B8 hb; obtain ⟨N18, N19⟩ := sqM hg B9; replace B9 := sqT B9 hb; clear hb hg; have := sqn6 N13 N12 N15 N14 N17 N16; have := sqn2 N19 N18; have := sqY2 B10))
    (try simp only [Act.put, List.setIfInBounds_toArray, List.set_cons_zero, List.set_cons_succ])
    go_cut [55] (fun v1 wc => ∃ (kq : Nat) (x1 : Bool), v1 = .bool x1 ∧ Aside0 (F13.j1 kq x1 t242 t243 t1 t252 t253 = some (r1, r2, r3, r4)) ∧ Aside0 (kq ≤ kj5) ∧ Aside0 (Kd.Q k31 31 wc w.heap.size (fun k_ => k_ ≠ gb255) (.slice Ao0 t1.length co0) t1) ∧ Aside0 (wc.heap[g0]? = some (.cells #[.int .i64 a0_0, .int .i64 a0_1, (.slice A0_2 l0_2.length c0_2)] 34 (0, 0))) ∧ Aside0 (wc.heap[g1]? = some (.cells #[.int .i64 a1_0, .string a1_1] 38 (0, 0))) ∧ Aside0 (wc.heap[g2]? = some (.cells #[.int .i64 0, .int .i64 0, (.slice none 0 0)] 34 (0, 0))) ∧ Aside0 (wc.heap[g3]? = some (.cells #[.int .i64 t242, .int .i64 t243, (.slice Ao0 t1.length co0)] 34 (0, 0))) ∧ Aside0 (wc.heap[gb255]? = some (.cells #[.int .i64 t252, .int .i64 t253] 31 (0, 0))) ∧ Aside0 (Below w.heap.size w wc))
    case first =>
     have H := HC0.1
     clear HC0
     by_cases c65 : t2 = true
     ·subst c65
      rw [if_pos rfl] at H
      have H' := sqa H
      clear H
      have := sqn6 N13 N12 N15 N14 N17 N16
      have := sqn2 N19 N18
      have := sqY2 B10
      have := sqn6 N0 N1 N2 N3 N6 N7
      have := sqY3 B0
      go_wp2
      go_meet
      case rel => exact ⟨_, ((t252 == a0_0 && (t253 == a0_1))), Z2, H', ⟨by have := HJ5.out; first | omega | exact Nat.le_refl _⟩, ⟨Z11 O1⟩, ⟨Z9 N12 B0⟩, ⟨Z9 N14 B2⟩, ⟨Z9 N16 B8⟩, ⟨Z9 N18 B9⟩, ⟨Z12 B10⟩, ⟨Z13 E0 E1 E2 E3 E4⟩⟩
     obtain rfl := sqb c65
     rw [if_neg sqF] at H
     have H' := sqa H
     clear H
     go_wp2
     go_meet
     case rel => exact ⟨_, (true), Z2, H', ⟨by have := HJ5.out; first | omega | exact Nat.le_refl _⟩, ⟨Z11 O1⟩, ⟨Z9 N12 B0⟩, ⟨Z9 N14 B2⟩, ⟨Z9 N16 B8⟩, ⟨Z9 N18 B9⟩, ⟨Z12 B10⟩, ⟨Z13 E0 E1 E2 E3 E4⟩⟩
    case rest =>
     clear HC0
     obtain ⟨kq, x1, rfl, HA, HJ0, O1, B0, B2, B8, B9, B10, HB⟩ := hcut
     cases kq with
     | zero => exact absurd HA.out (by simp [F13.j1])
     | succ kj0 =>
      have H := HA.out
      clear HA
      simp only [F13.j1] at H
      by_cases c75 : x1 = true
      ·subst c75
       rw [if_pos rfl] at H
       obtain ⟨rfl, rfl, rfl, rfl⟩ := sqO4 H
       have := sqn6 N7 N6 N9 N8 N11 N10
       have := sqn2 N18 N19
       have := sqY3 B9
       have := sqn6 N3 N2 N5 N4 N16 N17
       have := sqY3 B8
       go_wp2
       refine sqE g2 34 #[.int .i64 t242, .int .i64 t243, .slice Ao0 t1.length co0] (Z6 B8) underlying34 ?_
       exact ⟨_, Z14, by (with_reducible repeat (first | apply Kd.Q_alloc | apply Kd.Q_drewN | apply Kd.Q_drew)); exact Kd.Q_mono (sqq3 O1.1 B8.1) (fun _ hk => trivial), Z13 E0 E1 E2 E3 E4⟩
      obtain rfl := sqb c75
      rw [if_neg sqF] at H
      obtain ⟨c85, H⟩ := sqI H
      have LMc0 := sqa c85
      clear c85
      obtain ⟨y1, hy2⟩ : ∃ y_ : List (S31), y_ = (t1 ++ [(⟨t242, t243⟩ : S31)]) := ⟨_, rfl⟩
      replace H : (if (y1.length : Int) > 8 then (if 1 ≤ (y1.length : Int) then (some (t252, t253, (y1.drop (1 : Int).toNat), true)) else (none)) else (some (t252, t253, y1, true))) = some (r1, r2, r3, r4) := sqW hy2 H
      have Ny1 := sqa hy2
      clear hy2
      by_cases c86 : (y1.length : Int) > 8
      ·rw [if_pos c86] at H
       have c17 : decide (8 < (y1.length : Int)) = true := decide_eq_true c86
       have c18 : decide (8 < y1.length) = true := decide_eq_true (by omega)
       clear c86
       obtain ⟨c87, H⟩ := sqI H
       have c20 := eq_true c87
       have c21 : decide (1 ≤ (y1.length : Int)) = true := decide_eq_true c87
       clear c87
       obtain ⟨y2, hy3⟩ : ∃ y_ : List (S31), y_ = (y1.drop (1 : Int).toNat) := ⟨_, rfl⟩
       replace H : (some (t252, t253, y2, true)) = some (r1, r2, r3, r4) := sqW hy3 H
       have Ny2 := sqa hy3
       clear hy3
       obtain ⟨rfl, rfl, rfl, rfl⟩ := sqO4 H
       have := sqn6 N7 N6 N9 N8 N11 N10
       have := sqn2 N18 N19
       have := sqY3 B9
       go_wp2_with (first | ((with_reducible refine gate_builtin (b := .append) (xs := #[.tmp 58, .tmp 61]) rfl ?_); (try (refine gate_guard (by rfl) ?_; dsimp only)); at_builtin; refine Kd.Q_append k31 (w0 := w) w.heap.size rfl (.tmp 58) (.tmp 61) 32 31 (.agg #[(.int .i64 0), (.int .i64 0)]) 16 rfl underlying32 info31 rfl (by decide) (by omega) (.slice Ao0 t1.length co0) t1 (⟨t242, t243⟩ : S31) [.int .i64 t242, .int .i64 t243] (fun k_ => k_ ≠ gb255) (fun _ => False) rfl rfl ?aP (fun _ hk => hk.elim) ?aF ?aO ?aB ?aS ?aL ?_; (case aP => exact k31_mkM _ _ _ (⟨t242, t243⟩ : S31)); (case aB => exact (Z13 E0 E1 E2 E3 E4)); (case aF => exact (fun k_ hk => Kd.freshB (sqK B10) k_ hk)); (case aO => exact (Z10 O1)); (case aS => exact (below_size (Z13 E0 E1 E2 E3 E4))); (case aL => exact Z15 LMc0); intro v2 w93 ho hb hg hat; rw [← Ny1.out] at ho; replace B0 := sqa (blk_grown (sqK B0) hg (Kd.Q_ne O1.1 B0.1 (by decide))); replace B2 := sqa (blk_grown (sqK B2) hg (Kd.Q_ne O1.1 B2.1 (by decide))); replace B8 := sqa (blk_grown (sqK B8) hg (Kd.Q_ne O1.1 B8.1 (by decide))); replace B9 := sqa (blk_grown (sqK B9) hg (Kd.Q_ne O1.1 B9.1 (by decide))); replace B10 := sqa (blk_grown (sqK B10) hg (Kd.Q_away O1.1 (fun _ hk => hk))); replace HB := sqa (hb); have O3 := sqa (ho); clear O1; clear ho hb hg hat; obtain ⟨Ao94, co94, eo1, _⟩ := Kd.Q_slice O3.1; subst eo1; have := sqY3 B9) | ((with_reducible refine gate_store (t := 32) (p := 63) rfl ?_); refine store_event (t := 32) (p := 63) (v := ?vo_w1) (w1 := (w93.setCell ⟨g3, 2, none⟩ (.slice Ao94 y1.length co94))) ?hg ?ho ?hn ?hr ?_; (case ho => rfl); (case hg => rfl); (case hn => rfl); (case hr => exact Z8); intro w96 hw; replace O3 : Aside0 (Kd.Q k31 31 w96 w.heap.size (fun k_ => k_ ≠ gb255) (.slice Ao94 y1.length co94) y1) := ⟨(by rw [hw]; exact (by (with_reducible repeat (first | apply Kd.Q_alloc | apply Kd.Q_drewN | apply Kd.Q_drew)); exact Kd.Q_mono (Kd.Q_far (p := ⟨g3, 2, none⟩) (Kd.Q_types O3.1 B9.1 (by decide)) (fun _ hk => hk.2) (.slice Ao94 y1.length co94)) (fun _ hk => hk.1)))⟩; replace B0 : Aside0 (w96.heap[g0]? = some (.cells #[.int .i64 a0_0, .int .i64 a0_1, .slice A0_2 l0_2.length c0_2] 34 (0, 0))) := ⟨(by rw [hw]; exact (Z16 N6 B0))⟩; replace B2 : Aside0 (w96.heap[g1]? = some (.cells #[.int .i64 a1_0, .string a1_1] 38 (0, 0))) := ⟨(by rw [hw]; exact (Z16 N8 B2))⟩; replace B8 : Aside0 (w96.heap[g2]? = some (.cells #[.int .i64 0, .int .i64 0, .slice none 0 0] 34 (0, 0))) := ⟨(by rw [hw]; exact (Z16 N10 B8))⟩; replace B9 : Aside0 (w96.heap[g3]? = some (.cells #[.int .i64 t242, .int .i64 t243, .slice Ao94 y1.length co94] 34 (0, 0))) := ⟨(by rw [hw]; exact (by refine sqPut (cs := #[.int .i64 t242, .int .i64 t243, .slice Ao0 t1.length co0]) ?_ 2; exact sqK B9))⟩; replace B10 : Aside0 (w96.heap[gb255]? = some (.cells #[.int .i64 t252, .int .i64 t253] 31 (0, 0))) := ⟨(by rw [hw]; exact (Z16 N19 B10))⟩; replace HB : Aside0 (Below w.heap.size w w96) := ⟨(by rw [hw]; exact (Z13 E0 E1 E2 E3 E4))⟩; clear hw; have := sqY3 B9; have q2 : (1 : Int) ≤ ((y1.length : Int) : Int) := of_decide_eq_true Z7; obtain ⟨i098, hi1, _, hsz1, _⟩ := info_parts info31; have hcut1 := cut_from (P := prog) 32 31 .i64 underlying32 hi1 2 hsz1 Ao94 y1.length co94 1 (by omega) q2; have hr1 := Kd.Q_drop (k := (1 : Int).toNat) O3.1 (by omega); obtain ⟨A2, hA0⟩ : ∃ A1, A1 = (if co94 = (1 : Int).toNat then Ao94 else (Ao94 : Option Addr).map (·.add ((1 : Int).toNat * 2))) := ⟨_, rfl⟩; obtain ⟨c98, hc0⟩ : ∃ c1, c1 = co94 - (1 : Int).toNat := ⟨_, rfl⟩; have hy4 : y2.length = y1.length - (1 : Int).toNat := (by rw [Ny2.out, List.length_drop]); rw [← Ny2.out] at hr1; rw [← hy4, ← hA0, ← hc0] at hcut1; replace hr1 : Kd.Q k31 31 w96 w.heap.size (fun k_ => k_ ≠ gb255) (.slice A2 y2.length c98) y2 := (by rw [hA0, hc0, hy4]; exact hr1); have HE0 : Aside0 ((Value.slice A2 y2.length c98).ownBlock = (.slice Ao94 y1.length co94 : Value).ownBlock) := ⟨by rw [hA0]; split <;> (cases (Ao94 : Option Addr) <;> rfl)⟩; clear hy4 hi1 hsz1 O3 hA0 hc0; have O4 := sqa hr1; clear hr1; replace q2 := eq_true q2; have := sqn6 N13 N12 N15 N14 N17 N16; have := sqY2 B10; have := sqn4 N3 N2 N5 N4; have := sqY3 B8))
       refine sqE g2 34 #[.int .i64 t252, .int .i64 t253, .slice A2 y2.length c98] (Z17 N10 B8) underlying34 ?_
       exact ⟨_, Z14, by (with_reducible repeat (first | apply Kd.Q_alloc | apply Kd.Q_drewN | apply Kd.Q_drew)); exact Kd.Q_mono (Kd.Q_far (p := ⟨g2, 2, none⟩) (Kd.Q_far (p := ⟨g2, 1, none⟩) (Kd.Q_far (p := ⟨g2, 0, none⟩) (Kd.Q_far (p := ⟨g3, 1, none⟩) (Kd.Q_far (p := ⟨g3, 0, none⟩) (Kd.Q_far (p := ⟨g3, 2, none⟩) (Kd.Q_types (Kd.Q_types O4.1 B9.1 (by decide)) B8.1 (by decide)) (fun _ hk => hk.1.2) (.slice A2 y2.length c98)) (fun _ hk => hk.1.2) (.int .i64 t252)) (fun _ hk => hk.1.2) (.int .i64 t253)) (fun _ hk => hk.2) (.int .i64 t252)) (fun _ hk => hk.2) (.int .i64 t253)) (fun _ hk => hk.2) (.slice A2 y2.length c98)) (fun _ hk => trivial), Z13 E0 E1 E2 E3 E4⟩
      rw [if_neg c86] at H
      have c17 : decide (8 < (y1.length : Int)) = false := decide_eq_false c86
      have c18 : decide (8 < y1.length) = false := decide_eq_false (by omega)
      clear c86
      obtain ⟨rfl, rfl, rfl, rfl⟩ := sqO4 H
      have := sqn6 N7 N6 N9 N8 N11 N10
      have := sqn2 N18 N19
      have := sqY3 B9
      go_wp2_with (first | ((with_reducible refine gate_builtin (b := .append) (xs := #[.tmp 58, .tmp 61]) rfl ?_); (try (refine gate_guard (by rfl) ?_; dsimp only)); at_builtin; refine Kd.Q_append k31 (w0 := w) w.heap.size rfl (.tmp 58) (.tmp 61) 32 31 (.agg #[(.int .i64 0), (.int .i64 0)]) 16 rfl underlying32 info31 rfl (by decide) (by omega) (.slice Ao0 t1.length co0) t1 (⟨t242, t243⟩ : S31) [.int .i64 t242, .int .i64 t243] (fun k_ => k_ ≠ gb255) (fun _ => False) rfl rfl ?aP (fun _ hk => hk.elim) ?aF ?aO ?aB ?aS ?aL ?_; (case aP => exact k31_mkM _ _ _ (⟨t242, t243⟩ : S31)); (case aB => exact (Z13 E0 E1 E2 E3 E4)); (case aF => exact (fun k_ hk => Kd.freshB (sqK B10) k_ hk)); (case aO => exact (Z10 O1)); (case aS => exact (below_size (Z13 E0 E1 E2 E3 E4))); (case aL => exact Z15 LMc0); intro v2 w14 ho hb hg hat; rw [← Ny1.out] at ho; replace B0 := sqa (blk_grown (sqK B0) hg (Kd.Q_ne O1.1 B0.1 (by decide))); replace B2 := sqa (blk_grown (sqK B2) hg (Kd.Q_ne O1.1 B2.1 (by decide))); replace B8 := sqa (blk_grown (sqK B8) hg (Kd.Q_ne O1.1 B8.1 (by decide))); replace B9 := sqa (blk_grown (sqK B9) hg (Kd.Q_ne O1.1 B9.1 (by decide))); replace B10 := sqa (blk_grown (sqK B10) hg (Kd.Q_away O1.1 (fun _ hk => hk))); replace HB := sqa (hb); have O3 := sqa (ho); clear O1; clear ho hb hg hat; obtain ⟨Ao1, co1, eo2, _⟩ := Kd.Q_slice O3.1; subst eo2; have := sqY3 B9; have := sqn6 N13 N12 N15 N14 N17 N16; have := sqY2 B10; have := sqn4 N3 N2 N5 N4; have := sqY3 B8))
      refine sqE g2 34 #[.int .i64 t252, .int .i64 t253, .slice Ao1 y1.length co1] (Z17 N10 B8) underlying34 ?_
      exact ⟨_, Z14, by (with_reducible repeat (first | apply Kd.Q_alloc | apply Kd.Q_drewN | apply Kd.Q_drew)); exact Kd.Q_mono (Kd.Q_far (p := ⟨g2, 2, none⟩) (Kd.Q_far (p := ⟨g2, 1, none⟩) (Kd.Q_far (p := ⟨g2, 0, none⟩) (Kd.Q_far (p := ⟨g3, 1, none⟩) (Kd.Q_far (p := ⟨g3, 0, none⟩) (Kd.Q_far (p := ⟨g3, 2, none⟩) (Kd.Q_types (Kd.Q_types O3.1 B9.1 (by decide)) B8.1 (by decide)) (fun _ hk => hk.1.2) (.slice Ao1 y1.length co1)) (fun _ hk => hk.1.2) (.int .i64 t252)) (fun _ hk => hk.1.2) (.int .i64 t253)) (fun _ hk => hk.2) (.int .i64 t252)) (fun _ hk => hk.2) (.int .i64 t253)) (fun _ hk => hk.2) (.slice Ao1 y1.length co1)) (fun _ hk => trivial), Z13 E0 E1 E2 E3 E4⟩
 obtain rfl := sqb c4
 rw [if_neg sqF] at H
 obtain ⟨rfl, rfl, rfl, rfl⟩ := sqO4 H
 go_enter func14, ntmps14
 go_wp2_with (first | ((with_reducible refine sqd 2 rfl ?_); (try (refine gate_guard (by rfl) ?_; dsimp only)); refine sqBx w (sqB HB) (cs := #[.int .i64 a0_0, .int .i64 a0_1, .slice A0_2 l0_2.length c0_2]) (t := 34) ?_; intro g0 hg w17 B0 E0 HB hb; clear hb hg) | ((with_reducible refine sqd 3 rfl ?_); (try (refine gate_guard (by rfl) ?_; dsimp only)); refine sqBx w (sqB1 HB E0) (cs := #[.int .i64 a1_0, .string a1_1]) (t := 38) ?_; intro g1 hg w18 B2 E1 HB hb; obtain ⟨N0, N1⟩ := sqM hg B0; replace B0 := sqT B0 hb; clear hb hg) | ((with_reducible refine sqd 4 rfl ?_); (try (refine gate_guard (by rfl) ?_; dsimp only)); refine sqBx w (sqB2 HB E0 E1) (cs := #[.int .i64 0, .int .i64 0, .slice none 0 0]) (t := 34) ?_; intro g2 hg w19 B8 E2 HB hb; obtain ⟨N2, N3⟩ := sqM hg B0; replace B0 := sqT B0 hb; obtain ⟨N4, N5⟩ := sqM hg B2; replace B2 := sqT B2 hb; clear hb hg; have := sqn4 N0 N1 N2 N3; have := sqY3 B0) | ((with_reducible refine sqc 30 rfl ?_); refine sqC (some 11) func30 #[.agg #[.int .i64 a0_0, .int .i64 a0_1, .slice A0_2 l0_2.length c0_2]] ?_; (with_reducible refine (F18.c k a0_0 a0_1 _ _ l0_2 false _ ?side1 ?side2 A3.1).mono ?_); (case side1 => exact Z1); (case side2 => exact HC0_2.1); refine sqV fun w20 hb => ?_; obtain ⟨B0, B2, B8⟩ := sqT3 hb B0 B2 B8; replace HB := sqS (sqB3 HB E0 E1 E2) hb; have := sqn2 N5 N4; have := sqY3 B8))
 refine sqE g2 34 #[.int .i64 0, .int .i64 0, .slice none 0 0] (Z18 B8) underlying34 ?_
 exact ⟨_, Z14, Kd.Q_of_R Z19, sqB3 HB E0 E1 E2⟩

def F0.j0 : Nat → Int → Bool → List Int → Int → Option (Int × Int)
 | 0, _, _, _, _ => none
 | k + 1, x1, x0, x2, x3 => if x0 = true then (some (0, x3)) else (if (wrap64 (x3 - 1)) < (x2.length : Int) then (if 0 ≤ (wrap64 (x3 - 1)) then (if x1 = 0 then (none) else (some (Int.tmod (wrap64 (rd x2 (wrap64 (x3 - 1)))) x1, x3))) else (none)) else (if (x2.length : Int) = 0 then (none) else (if 0 ≤ (Int.tmod (wrap64 (x3 - 1)) (x2.length : Int)) then (if (Int.tmod (wrap64 (x3 - 1)) (x2.length : Int)) < (x2.length : Int) then (if 0 ≤ (Int.tmod (wrap64 ((wrap64 ((wrap64 (x3 - 1)) * 7)) + 3)) (x2.length : Int)) then (if (Int.tmod (wrap64 ((wrap64 ((wrap64 (x3 - 1)) * 7)) + 3)) (x2.length : Int)) < (x2.length : Int) then (if x1 = 0 then (none) else (some (Int.tmod (Go.bits .xor .i64 (wrap64 ((wrap64 ((wrap64 ((wrap64 ((wrap64 (rd x2 (Int.tmod (wrap64 (x3 - 1)) (x2.length : Int)))) * 131)) + (wrap64 ((wrap64 (rd x2 (Int.tmod (wrap64 ((wrap64 ((wrap64 (x3 - 1)) * 7)) + 3)) (x2.length : Int)))) * 1117)))) + (wrap64 ((wrap64 (x3 - 1)) * 29)))) + (wrap64 ((wrap64 (Int.tdiv (wrap64 (x3 - 1)) (x2.length : Int))) * 53)))) (wrap64 (Int.tdiv (wrap64 ((wrap64 ((wrap64 ((wrap64 ((wrap64 (rd x2 (Int.tmod (wrap64 (x3 - 1)) (x2.length : Int)))) * 131)) + (wrap64 ((wrap64 (rd x2 (Int.tmod (wrap64 ((wrap64 ((wrap64 (x3 - 1)) * 7)) + 3)) (x2.length : Int)))) * 1117)))) + (wrap64 ((wrap64 (x3 - 1)) * 29)))) + (wrap64 ((wrap64 (Int.tdiv (wrap64 (x3 - 1)) (x2.length : Int))) * 53)))) 64))) x1, x3))) else (none)) else (none)) else (none)) else (none))))
def F0.f (k : Nat) (s0_0 : List Int) (s0_1 : Int) (a1 : Int) : Option (Int × Int) := if a1 < 1 then (F0.j0 k a1 true s0_0 (wrap64 (s0_1 + 1))) else (F0.j0 k a1 ((s0_0.length : Int) == 0) s0_0 (wrap64 (s0_1 + 1)))
abbrev F0.M (k : Nat) : Prop := (∀ y0 y1 y2 y3, LeO (F0.j0 k y0 y1 y2 y3) (F0.j0 (k + 1) y0 y1 y2 y3))
theorem F0.mt : ∀ k, F0.M k → F0.M (k + 1) ∧ ∀ a0 a1 a2, LeO (F0.f k a0 a1 a2) (F0.f (k + 1) a0 a1 a2) := by
  rintro k ih0
  refine ⟨?_, ?_⟩ <;> (try unfold F0.M) <;> intros <;> (first | unfold F0.j0 | unfold F0.f) <;> repeat' (with_reducible first | exact ih0 _ _ _ _ | exact LeO.refl _ | exact LeO.none _ | refine LeO.ite ?_ ?_ | refine LeO.bind ?_ fun _ => ?_)
theorem F0.ml : ∀ k, F0.M k
 | 0 => fun _ _ _ _ r h => by simp [F0.j0] at h
 | k + 1 => (F0.mt k (F0.ml k)).1
theorem F0.m a0 a1 a2 k : LeO (F0.f k a0 a1 a2) (F0.f (k + 1) a0 a1 a2) := (F0.mt k (F0.ml k)).2 a0 a1 a2
theorem F0.c (k : Nat) (g : Nat) (s0_0 : List Int) (s0_1 : Int) (a1 : Int) (r1 : Int) (r2 : Int) (w0 w : World) (hI : IsS131 w0 w g s0_0 s0_1) (hB : Below w0.heap.size w0 w) (H : F0.f k s0_0 s0_1 a1 = some (r1, r2)) :
  Calls prog 82 #[.pointer (some ⟨g, 0, none⟩), .int .i64 a1] w fun e w' => e = .returned (.int .i64 r1) ∧ IsS131 w0 w' g s0_0 r2 ∧ Below w0.heap.size w0 w' ∧ KeepBut w w' g none := by
 have HI0 := sqa hI
 have HK := sqa (KeepBut.refl w g none)
 have HL := sqa hB.size
 clear hI
 have HW0 := sqa hB.size
 have HB := sqa hB
 clear hB
 unfold F0.f at H
 have HC3 := sqa H
 clear H
 obtain ⟨ASz4_0, cSz4_0, HGz4, hgz4, HSz4_0⟩ := HI0.1
 have hcz4_0 := cellS131_0 HGz4
 have hcz4_1 := cellS131_1 HGz4
 have hfz4_1 := blk_frozen HGz4 1
 clear HGz4 hgz4
 go_enter func82, ntmps82
 go_upto_region 2 with (fail)
 repeat (go_quiet (fail); go_upto_region 2 with (fail))
 go_cut [24] (fun v24 wc => ∃ (kq : Nat) (x24_2 : Bool), v24 = .bool x24_2 ∧ Aside0 (F0.j0 kq a1 x24_2 s0_0 (wrap64 (s0_1 + 1)) = some (r1, r2)) ∧ Aside0 (kq ≤ k) ∧ Aside0 (IsS131 w0 wc g s0_0 (wrap64 (s0_1 + 1))) ∧ Aside0 (KeepBut w wc g none) ∧ Aside0 (Below w0.heap.size w0 wc))
 case first =>
  have H := HC3.1
  clear HC3
  by_cases c5 : a1 < 1
  ·rw [if_pos c5] at H
   have c5b0 : decide (a1 < 1) = true := decide_eq_true c5
   clear c5
   (first | rw [c5b0] | (simp only [i64_w, i32_w]; rw [c5b0]) | skip)
   have H' := sqa H
   clear H
   go_wp2
   repeat (go_quiet (fail); try go_wp2)
   go_meet
   case rel => exact ⟨_, (true), Z2, H', ⟨Z3⟩, ⟨Z20 HI0⟩, ⟨Z21⟩, ⟨Z22 HI0⟩⟩
  rw [if_neg c5] at H
  have c5b0 : decide (a1 < 1) = false := decide_eq_false c5
  clear c5
  (first | rw [c5b0] | (simp only [i64_w, i32_w]; rw [c5b0]) | skip)
  have H' := sqa H
  clear H
  obtain ⟨ASz6_0, cSz6_0, HGz6, hgz6, HSz6_0⟩ := HI0.1
  have hcz6_0 := cellS131_0 HGz6
  have hcz6_1 := cellS131_1 HGz6
  have hfz6_1 := blk_frozen HGz6 1
  clear HGz6 hgz6
  go_wp2
  repeat (go_quiet (fail); try go_wp2)
  go_meet
  case rel => exact ⟨_, (((s0_0.length : Int) == 0)), Z2, H', ⟨Z3⟩, ⟨Z20 HI0⟩, ⟨Z21⟩, ⟨Z22 HI0⟩⟩
 case rest =>
  clear HC3
  obtain ⟨kq, x24_2, rfl, HA, HJ2, HI0, HK, HB⟩ := hcut
  cases kq with
  | zero => exact absurd HA.out (by simp [F0.j0])
  | succ kj2 =>
   have H := HA.out
   clear HA
   simp only [F0.j0] at H
   by_cases c7 : x24_2 = true
   ·subst c7
    rw [if_pos rfl] at H
    obtain ⟨rfl, rfl⟩ := sqO2 H
    go_wp2
    repeat (go_quiet (fail); try go_wp2)
    go_ret
    exact ⟨Z14, Z20 HI0, Z22 HI0, Z21⟩
   obtain rfl := sqb c7
   rw [if_neg sqF] at H
   by_cases c8 : (wrap64 ((wrap64 (s0_1 + 1)) - 1)) < (s0_0.length : Int)
   ·rw [if_pos c8] at H
    have c8b0 : decide ((wrap64 ((wrap64 (s0_1 + 1)) - 1)) < (s0_0.length : Int)) = true := decide_eq_true c8
    clear c8
    obtain ⟨ji9, hji9⟩ : ∃ j_ : Int, (wrap64 ((wrap64 (s0_1 + 1)) - 1)) = j_ := ⟨_, rfl⟩
    replace H : (if 0 ≤ (ji9) then (if a1 = 0 then (none) else (some (Int.tmod (wrap64 (rd s0_0 (ji9))) a1, (wrap64 (s0_1 + 1))))) else (none)) = some (r1, r2) := by first | (rw [hji9] at H; exact H) | (simp only [hji9] at H ⊢; exact H)
    (try rw [hji9] at c8b0)
    have hji9w : (IntKind.i64.wrap ((wrap64 (s0_1 + 1)) - 1)) = ji9 := (i64_w _).trans hji9
    obtain ⟨c10, H⟩ := sqI H
    have c0 : decide (0 ≤ (ji9)) = true := decide_eq_true c10
    clear c10
    by_cases c1 : a1 = 0
    ·rw [if_pos c1] at H
     exact absurd H (by simp)
    rw [if_neg c1] at H
    have c2 := sqe0 c1
    have c3 := sqn1 c1
    obtain ⟨rfl, rfl⟩ := sqO2 H
    obtain ⟨ASz0, cSz0, HGz0, hgz0, HSz0⟩ := HI0.1
    have hcz0 := cellS131_0 HGz0
    have hcz1 := cellS131_1 HGz0
    have hfz0 := blk_frozen HGz0 1
    clear HGz0 hgz0
    have p0 : 0 ≤ ((ji9) : Int) := of_decide_eq_true Z7
    have q0 : (ji9) < (s0_0.length : Int) := of_decide_eq_true Z7
    obtain ⟨ad0, e0, hx0⟩ := Kd.at_int HSz0 (ji9) p0 q0
    cases e0
    replace hx0 := pw_cell_below HB.1 hx0
    replace p0 := eq_true p0
    replace q0 := eq_true q0
    go_wp2
    repeat (go_quiet (fail); try go_wp2)
    go_ret
    exact ⟨by first | rfl | (simp [errP_none, errP_some] <;> rfl) | (simp only [← hji9]; first | rfl | (simp [errP_none, errP_some] <;> rfl)) | (simp [*, errP_none, errP_some] <;> rfl), Z20 HI0, Z22 HI0, Z21⟩
   rw [if_neg c8] at H
   have c8b0 : decide ((wrap64 ((wrap64 (s0_1 + 1)) - 1)) < (s0_0.length : Int)) = false := decide_eq_false c8
   clear c8
   by_cases c4 : (s0_0.length : Int) = 0
   ·rw [if_pos c4] at H
    exact absurd H (by simp)
   rw [if_neg c4] at H
   have c6 := sqe0 c4
   have c9 := sqn1 c4
   have c12 : ¬ (s0_0 = []) := fun h_ => c4 (by rw [h_]; rfl)
   obtain ⟨ji0, hji0⟩ : ∃ j_ : Int, (Int.tmod (wrap64 ((wrap64 (s0_1 + 1)) - 1)) (s0_0.length : Int)) = j_ := ⟨_, rfl⟩
   replace H : (if 0 ≤ (ji0) then (if (ji0) < (s0_0.length : Int) then (if 0 ≤ (Int.tmod (wrap64 ((wrap64 ((wrap64 ((wrap64 (s0_1 + 1)) - 1)) * 7)) + 3)) (s0_0.length : Int)) then (if (Int.tmod (wrap64 ((wrap64 ((wrap64 ((wrap64 (s0_1 + 1)) - 1)) * 7)) + 3)) (s0_0.length : Int)) < (s0_0.length : Int) then (if a1 = 0 then (none) else (some (Int.tmod (Go.bits .xor .i64 (wrap64 ((wrap64 ((wrap64 ((wrap64 ((wrap64 (rd s0_0 (ji0))) * 131)) + (wrap64 ((wrap64 (rd s0_0 (Int.tmod (wrap64 ((wrap64 ((wrap64 ((wrap64 (s0_1 + 1)) - 1)) * 7)) + 3)) (s0_0.length : Int)))) * 1117)))) + (wrap64 ((wrap64 ((wrap64 (s0_1 + 1)) - 1)) * 29)))) + (wrap64 ((wrap64 (Int.tdiv (wrap64 ((wrap64 (s0_1 + 1)) - 1)) (s0_0.length : Int))) * 53)))) (wrap64 (Int.tdiv (wrap64 ((wrap64 ((wrap64 ((wrap64 ((wrap64 (rd s0_0 (ji0))) * 131)) + (wrap64 ((wrap64 (rd s0_0 (Int.tmod (wrap64 ((wrap64 ((wrap64 ((wrap64 (s0_1 + 1)) - 1)) * 7)) + 3)) (s0_0.length : Int)))) * 1117)))) + (wrap64 ((wrap64 ((wrap64 (s0_1 + 1)) - 1)) * 29)))) + (wrap64 ((wrap64 (Int.tdiv (wrap64 ((wrap64 (s0_1 + 1)) - 1)) (s0_0.length : Int))) * 53)))) 64))) a1, (wrap64 (s0_1 + 1))))) else (none)) else (none)) else (none)) else (none)) = some (r1, r2) := by first | (rw [hji0] at H; exact H) | (simp only [hji0] at H ⊢; exact H)
   obtain ⟨c15, H⟩ := sqI H
   have c17 : decide (0 ≤ (ji0)) = true := decide_eq_true c15
   clear c15
   obtain ⟨c16, H⟩ := sqI H
   have c22 : decide ((ji0) < (s0_0.length : Int)) = true := decide_eq_true c16
   clear c16
   obtain ⟨ji1, hji1⟩ : ∃ j_ : Int, (Int.tmod (wrap64 ((wrap64 ((wrap64 ((wrap64 (s0_1 + 1)) - 1)) * 7)) + 3)) (s0_0.length : Int)) = j_ := ⟨_, rfl⟩
   replace H : (if 0 ≤ (ji1) then (if (ji1) < (s0_0.length : Int) then (if a1 = 0 then (none) else (some (Int.tmod (Go.bits .xor .i64 (wrap64 ((wrap64 ((wrap64 ((wrap64 ((wrap64 (rd s0_0 (ji0))) * 131)) + (wrap64 ((wrap64 (rd s0_0 (ji1))) * 1117)))) + (wrap64 ((wrap64 ((wrap64 (s0_1 + 1)) - 1)) * 29)))) + (wrap64 ((wrap64 (Int.tdiv (wrap64 ((wrap64 (s0_1 + 1)) - 1)) (s0_0.length : Int))) * 53)))) (wrap64 (Int.tdiv (wrap64 ((wrap64 ((wrap64 ((wrap64 ((wrap64 (rd s0_0 (ji0))) * 131)) + (wrap64 ((wrap64 (rd s0_0 (ji1))) * 1117)))) + (wrap64 ((wrap64 ((wrap64 (s0_1 + 1)) - 1)) * 29)))) + (wrap64 ((wrap64 (Int.tdiv (wrap64 ((wrap64 (s0_1 + 1)) - 1)) (s0_0.length : Int))) * 53)))) 64))) a1, (wrap64 (s0_1 + 1))))) else (none)) else (none)) = some (r1, r2) := by first | (rw [hji1] at H; exact H) | (simp only [hji1] at H ⊢; exact H)
   obtain ⟨c18, H⟩ := sqI H
   have c24 : decide (0 ≤ (ji1)) = true := decide_eq_true c18
   clear c18
   obtain ⟨c19, H⟩ := sqI H
   have c26 : decide ((ji1) < (s0_0.length : Int)) = true := decide_eq_true c19
   clear c19
   by_cases c20 : a1 = 0
   ·rw [if_pos c20] at H
    exact absurd H (by simp)
   rw [if_neg c20] at H
   have c27 := sqe0 c20
   have c28 := sqn1 c20
   obtain ⟨rfl, rfl⟩ := sqO2 H
   obtain ⟨ASz1, cSz1, HGz1, hgz1, HSz1⟩ := HI0.1
   have hcz2 := cellS131_0 HGz1
   have hcz3 := cellS131_1 HGz1
   have hfz1 := blk_frozen HGz1 1
   clear HGz1 hgz1
   have p1 : 0 ≤ ((ji0) : Int) := of_decide_eq_true Z7
   have q1 : (ji0) < (s0_0.length : Int) := of_decide_eq_true Z7
   obtain ⟨ad1, e1, hx1⟩ := Kd.at_int HSz1 (ji0) p1 q1
   cases e1
   replace hx1 := pw_cell_below HB.1 hx1
   replace p1 := eq_true p1
   replace q1 := eq_true q1
   have p2 : 0 ≤ ((ji1) : Int) := of_decide_eq_true Z7
   have q2 : (ji1) < (s0_0.length : Int) := of_decide_eq_true Z7
   obtain ⟨ad2, e2, hx2⟩ := Kd.at_int HSz1 (ji1) p2 q2
   obtain rfl : ad1 = ad2 := (by injection e2)
   replace hx2 := pw_cell_below HB.1 hx2
   replace p2 := eq_true p2
   replace q2 := eq_true q2
   go_wp2
   repeat (go_quiet (fail); try go_wp2)
   go_ret
   exact ⟨by first | rfl | (simp [errP_none, errP_some] <;> rfl) | (simp only [← hji0, ← hji1]; first | rfl | (simp [errP_none, errP_some] <;> rfl)) | (simp [*, errP_none, errP_some] <;> rfl), Z20 HI0, Z22 HI0, Z21⟩
end
end Go.Proofs.YtofmlbgfcohhoaaGreatDoor.PFnReadJournal
