import Derived.Test.YtofmlbgfcohhoaaGreatDoorPFnDeskSayx17
set_option maxHeartbeats 8000000
set_option maxRecDepth 100000
namespace Go.Proofs.YtofmlbgfcohhoaaGreatDoor.PFnDeskSay
open Go.RowKit Go.Proofs.YtofmlbgfcohhoaaGreatDoorW.PrintWords Go.Proofs.YtofmlbgfcohhoaaGreatDoorW.PrintLast Go.Proofs.YtofmlbgfcohhoaaGreatDoorW.PrintMore Go.Proofs.YtofmlbgfcohhoaaGreatDoor.Lib Go.Proofs.Tryz
attribute [local go_sem] max2_int min2_int max_two min_two max_three min_three max_four min_four   -- for this text's walks alone
set_option linter.unusedVariables false
set_option linter.unusedSimpArgs false

attribute [local go_sem high] eqA31 eqA38
mutual
def F16.j0 : Nat → Bool → Int → Int → List (S31) → Int → ByteArray → Int → Int → List (S31) → Option (Int × Int × (List (S31)) × Bool)
 | 0, _, _, _, _, _, _, _, _, _ => none
 | k + 1, x0, x1, x2, x3, x4, x5, x6, x7, x8 => if x0 = true then (if 0 ≤ (wrap64 ((x8.length : Int) - 1)) then (if (wrap64 ((x8.length : Int) - 1)) < (x8.length : Int) then (if (wrap64 ((x8.length : Int) - 1)) ≤ (x8.length : Int) then (some ((rd_T31 x8 (wrap64 ((x8.length : Int) - 1))).f0, (rd_T31 x8 (wrap64 ((x8.length : Int) - 1))).f1, (x8.take ((wrap64 ((x8.length : Int) - 1)) : Int).toNat), true)) else (none)) else (none)) else (none)) else ((F69.f k x1 x2 x4 x5).bind fun bt0 => (if bt0.2.2 = true then (F16.j1 k (bt0.1 == x1 && (bt0.2.1 == x2)) x6 x7 x8 bt0.1 bt0.2.1) else (F16.j1 k true x6 x7 x8 bt0.1 bt0.2.1)))
def F16.j1 : Nat → Bool → Int → Int → List (S31) → Int → Int → Option (Int × Int × (List (S31)) × Bool)
 | 0, _, _, _, _, _, _ => none
 | k + 1, x0, x1, x2, x3, x4, x5 => if x0 = true then (some (x1, x2, x3, false)) else (if x3.length < 8796093022208 then ((some (x3 ++ [(⟨x1, x2⟩ : S31)] : List (S31))).bind fun y0 => (if (y0.length : Int) > 8 then (if 1 ≤ (y0.length : Int) then (some (x4, x5, (y0.drop (1 : Int).toNat), true)) else (none)) else (some (x4, x5, y0, true)))) else (none))
end
def F16.f (k : Nat) (a0_0 : Int) (a0_1 : Int) (l0_2 : List (S31)) (a1_0 : Int) (a1_1 : ByteArray) : Option (Int × Int × (List (S31)) × Bool) := (F15.f k a0_0 a0_1 l0_2).bind fun t0 => (if t0 = true then ((F40.f a0_0 a0_1 l0_2).bind fun bt0 => (if (a1_0 == 4 && (a1_1.toList == ([] : List UInt8))) = true then (F16.j0 k (decide ((l0_2.length : Int) > 0)) a0_0 a0_1 l0_2 a1_0 a1_1 bt0.1 bt0.2.1 bt0.2.2) else (F16.j0 k false a0_0 a0_1 l0_2 a1_0 a1_1 bt0.1 bt0.2.1 bt0.2.2))) else (some (0, 0, ([] : List (S31)), false)))
theorem F16.c (k : Nat) (a0_0 : Int) (a0_1 : Int) (A0_2 : Option Addr) (c0_2 : Nat) (l0_2 : List (S31)) (a1_0 : Int) (a1_1 : ByteArray) (r1 : Int) (r2 : Int) (r3 : List (S31)) (r4 : Bool) (w : World) (hr0_2 : Kd.C k31 w A0_2 l0_2.length l0_2) (hc0_2 : l0_2.length ≤ c0_2) (H : F16.f k a0_0 a0_1 l0_2 a1_0 a1_1 = some (r1, r2, r3, r4)) :
  Calls prog 14 #[.agg #[.int .i64 a0_0, .int .i64 a0_1, .slice A0_2 l0_2.length c0_2], .agg #[.int .i64 a1_0, .string a1_1]] w fun e w' => ∃ v2_ : Value, e = .returned (.tuple #[.agg #[.int .i64 r1, .int .i64 r2, v2_], .bool r4]) ∧ Kd.Q k31 31 w' w.heap.size (fun _ => True) v2_ r3 ∧ Below w.heap.size w w' := by
 have hu34 := underlying34
 have hu38 := underlying38
 have hu31 := underlying31
 have HR0_2 := sqa hr0_2
 have HC0_2 := sqa hc0_2
 clear hr0_2 hc0_2
 have HB := sqh w
 unfold F16.f at H
 obtain ⟨t0, A3, H⟩ := sqD H
 obtain rfl | rfl := sqt t0
 ·rw [if_pos rfl] at H
  obtain ⟨⟨t494, t495, t1⟩, A5, H⟩ := sqD H
  try dsimp only at H
  have HC6 := sqa H
  clear H
  go_enter func14, ntmps14
  go_upto_region 4 with (first | ((with_reducible refine sqd 2 rfl ?_); (try (refine gate_guard (by rfl) ?_; dsimp only)); refine sqx0 w (sqB HB) #[.int .i64 a0_0, .int .i64 a0_1, .slice A0_2 l0_2.length c0_2] 34 fun g0 w7 B0 E0 HB => ?_) | ((with_reducible refine sqd 3 rfl ?_); (try (refine gate_guard (by rfl) ?_; dsimp only)); refine sqx1 w (sqB1 HB E0) #[.int .i64 a1_0, .string a1_1] 38 B0 fun g1 w8 B2 E1 HB N0 N1 B0 => ?_) | ((with_reducible refine sqd 4 rfl ?_); (try (refine gate_guard (by rfl) ?_; dsimp only)); refine sqx w (sqB2 HB E0 E1) #[.int .i64 0, .int .i64 0, .slice none 0 0] 34 fun g2 hg w9 B9 E2 HB hb => ?_; obtain ⟨N2, N3⟩ := sqM hg B0; replace B0 := sqT B0 hb; obtain ⟨N4, N5⟩ := sqM hg B2; replace B2 := sqT B2 hb; clear hb hg; have := sqn4 N0 N1 N2 N3; have := sqY3 B0) | ((with_reducible refine sqc 30 rfl ?_); refine sqv (some 11) func30 (args := #[.agg #[.int .i64 a0_0, .int .i64 a0_1, .slice A0_2 l0_2.length c0_2]]) (F15.c k a0_0 a0_1 _ _ l0_2 true _ Z35 Z36 A3.1) fun w2 hb => ?_; obtain ⟨B0, B2, B9⟩ := sqT3 hb B0 B2 B9; replace HB := sqS (sqB3 HB E0 E1 E2) hb; have := sqY3 B0) | ((with_reducible refine sqc 56 rfl ?_); refine sqvo (some 15) func56 (args := #[.agg #[.int .i64 a0_0, .int .i64 a0_1, .slice A0_2 l0_2.length c0_2]]) (F40.c a0_0 a0_1 _ _ l0_2 t494 t495 t1 _ Z35 Z36 A5.1) fun v0 w3 ho0 hb => ?_; have O0 := sqL ho0 (sqB3 HB E0 E1 E2); obtain ⟨B0, B2, B9⟩ := sqT3 hb B0 B2 B9; replace HB := sqS (sqB3 HB E0 E1 E2) hb; (try clear ho0)) | ((with_reducible refine sqd 6 rfl ?_); (try (refine gate_guard (by rfl) ?_; dsimp only)); refine sqx w (sqB3 HB E0 E1 E2) #[.int .i64 0, .int .i64 0, .slice none 0 0] 34 fun g3 hg w4 B10 E3 HB hb => ?_; replace O0 := sqU O0 hb; obtain ⟨N6, N7⟩ := sqM hg B0; replace B0 := sqT B0 hb; obtain ⟨N8, N9⟩ := sqM hg B2; replace B2 := sqT B2 hb; obtain ⟨N10, N11⟩ := sqM hg B9; replace B9 := sqT B9 hb; clear hb hg; have := sqn6 N7 N6 N9 N8 N11 N10; have := sqY3 B10; obtain ⟨Ao0, co0, eo0⟩ := Kd.R_slice O0.1; subst eo0))
  (try simp only [Act.put, List.setIfInBounds_toArray, List.set_cons_zero, List.set_cons_succ])
  go_cut [24] (fun v24 wc => ∃ (kq : Nat) (x0 : Bool), v24 = .bool x0 ∧ Aside0 (F16.j0 kq x0 a0_0 a0_1 l0_2 a1_0 a1_1 t494 t495 t1 = some (r1, r2, r3, r4)) ∧ Aside0 (kq ≤ k) ∧ Aside0 (Kd.Q k31 31 wc w.heap.size (fun _ => True) (.slice Ao0 t1.length co0) t1) ∧ Aside0 (wc.heap[g0]? = some (.cells #[.int .i64 a0_0, .int .i64 a0_1, (.slice A0_2 l0_2.length c0_2)] 34 (0, 0))) ∧ Aside0 (wc.heap[g1]? = some (.cells #[.int .i64 a1_0, .string a1_1] 38 (0, 0))) ∧ Aside0 (wc.heap[g2]? = some (.cells #[.int .i64 0, .int .i64 0, (.slice none 0 0)] 34 (0, 0))) ∧ Aside0 (wc.heap[g3]? = some (.cells #[.int .i64 t494, .int .i64 t495, (.slice Ao0 t1.length co0)] 34 (0, 0))) ∧ Aside0 (Below w.heap.size w wc))
  case first =>
   have H := HC6.1
   clear HC6
   obtain ⟨c0, H⟩ | ⟨c0, H⟩ := sqi2 H
   ·have c2 : (a1_0 == 4 && (a1_1.toList == ([] : List UInt8))) = true := c0
    try have c3 : (a1_0 == 4 && a1_1.toList.isEmpty) = true := by (have h_ := c2; (repeat rw [sqy] at h_); exact h_)
    (try (have c5 : decide (a1_0 = 4 && (a1_1.toList == ([] : List UInt8))) = true := by simpa using c0))
    (try (have c6 : (a1_0 == 4 && (a1_1.toList == ([] : List UInt8))) = true := by simpa using c0))
    clear c0
    (first | rw [c2] | (simp only [i64_w, i32_w]; rw [c2]) | skip)
    have H' := sqa H
    clear H
    have := sqn6 N1 N0 N4 N5 N8 N9
    have := sqY2 B2
    have := sqn4 N2 N3 N6 N7
    have := sqY3 B0
    go_wp2
    go_meet
    case rel => exact ⟨_, (decide ((l0_2.length : Int) > 0)), Z1, H', ⟨Z11⟩, ⟨Kd.Q_of_R (Z37 O0 B10)⟩, ⟨Z38 N6 B0⟩, ⟨Z38 N8 B2⟩, ⟨Z38 N10 B9⟩, ⟨Z39 B10⟩, ⟨sqB4 HB E0 E1 E2 E3⟩⟩
   have c2 : (a1_0 == 4 && (a1_1.toList == ([] : List UInt8))) = false := by simpa using c0
   try have c3 : (a1_0 == 4 && a1_1.toList.isEmpty) = false := by (have h_ := c2; (repeat rw [sqy] at h_); exact h_)
   (try (have c5 : decide (a1_0 = 4 && (a1_1.toList == ([] : List UInt8))) = false := by simpa using c0))
   (try (have c6 : (a1_0 == 4 && (a1_1.toList == ([] : List UInt8))) = false := by simpa using c0))
   (try (have c7 : ¬ (a1_0 = 4 && (a1_1.toList == ([] : List UInt8))) := by simpa using c0))
   clear c0
   (first | rw [c2] | (simp only [i64_w, i32_w]; rw [c2]) | skip)
   have H' := sqa H
   clear H
   have := sqn6 N1 N0 N4 N5 N8 N9
   have := sqY2 B2
   go_wp2
   go_meet
   case rel => exact ⟨_, (false), Z1, H', ⟨Z11⟩, ⟨Kd.Q_of_R (Z37 O0 B10)⟩, ⟨Z38 N6 B0⟩, ⟨Z38 N8 B2⟩, ⟨Z38 N10 B9⟩, ⟨Z39 B10⟩, ⟨sqB4 HB E0 E1 E2 E3⟩⟩
  case rest =>
   clear HC6
   obtain ⟨kq, x0, rfl, HA, HJ5, O1, B0, B2, B9, B10, HB⟩ := hcut
   cases kq with
   | zero => exact absurd HA.out (by simp [F16.j0])
   | succ kj5 =>
    have H := HA.out
    clear HA
    simp only [F16.j0] at H
    obtain rfl | rfl := sqt x0
    ·rw [if_pos rfl] at H
     obtain ⟨ji0, hji0⟩ : ∃ j_ : Int, (wrap64 ((t1.length : Int) - 1)) = j_ := ⟨_, rfl⟩
     replace H : (if 0 ≤ (ji0) then (if (ji0) < (t1.length : Int) then (if (ji0) ≤ (t1.length : Int) then (some ((rd_T31 t1 (ji0)).f0, (rd_T31 t1 (ji0)).f1, (t1.take ((ji0) : Int).toNat), true)) else (none)) else (none)) else (none)) = some (r1, r2, r3, r4) := by first | (rw [hji0] at H; exact H) | (simp only [hji0] at H ⊢; exact H)
     have hji1 : (IntKind.i64.wrap ((t1.length : Int) - 1)) = ji0 := (i64_w _).trans hji0
     obtain ⟨c10, H⟩ := sqJ2 H
     obtain ⟨c11, H⟩ := sqJ2 H
     obtain ⟨c13, c14, H⟩ := sqJ3 H
     obtain ⟨y0, hy0⟩ : ∃ y_ : List (S31), y_ = (t1.take ((ji0) : Int).toNat) := ⟨_, rfl⟩
     replace H : (some ((rd_T31 t1 (ji0)).f0, (rd_T31 t1 (ji0)).f1, y0, true)) = some (r1, r2, r3, r4) := sqW hy0 H
     have Ny0 := sqa hy0
     clear hy0
     obtain ⟨rfl, rfl, rfl, rfl⟩ := sqO4 H
     have := sqn6 N7 N6 N9 N8 N11 N10
     have := sqY3 B10
     have p0 : 0 ≤ ((ji0) : Int) := of_decide_eq_true Z16
     have q0 : (ji0) < (t1.length : Int) := of_decide_eq_true Z16
     obtain ⟨ad0, e0, hx0, hx1⟩ := at_T31 (Kd.Q_reads' O1.1).2.2 (ji0) p0 q0
     cases e0
     replace p0 := eq_true p0
     replace q0 := eq_true q0
     go_wp2_with (first | ((with_reducible refine gate_store (t := 31) (p := 34) rfl ?_); refine store_event (t := 31) (p := 34) (v := ?vo_w0) (w1 := ((wc.setCell ⟨g3, 0, none⟩ (.int .i64 ((rd_T31 t1 (ji0)).f0))).setCell ⟨g3, 1, none⟩ (.int .i64 ((rd_T31 t1 (ji0)).f1)))) ?hg ?ho ?hn ?hr ?_; (case ho => rfl); (case hg => rfl); (case hn => rfl); (case hr => exact Z17); intro w5 hw; replace O1 : Aside0 (Kd.Q k31 31 w5 w.heap.size (fun _ => True) (.slice (some ad0) t1.length co0) t1) := ⟨(by rw [hw]; exact (by (with_reducible repeat (first | apply Kd.Q_alloc | apply Kd.Q_drewN | apply Kd.Q_drew)); exact Kd.Q_mono (sqq2 O1.1 B10.1) (fun _ hk => trivial)))⟩; replace B0 : Aside0 (w5.heap[g0]? = some (.cells #[.int .i64 a0_0, .int .i64 a0_1, .slice A0_2 l0_2.length c0_2] 34 (0, 0))) := ⟨(by rw [hw]; exact (Z9 N6 B0))⟩; replace B2 : Aside0 (w5.heap[g1]? = some (.cells #[.int .i64 a1_0, .string a1_1] 38 (0, 0))) := ⟨(by rw [hw]; exact (Z9 N8 B2))⟩; replace B9 : Aside0 (w5.heap[g2]? = some (.cells #[.int .i64 0, .int .i64 0, .slice none 0 0] 34 (0, 0))) := ⟨(by rw [hw]; exact (Z9 N10 B9))⟩; replace B10 : Aside0 (w5.heap[g3]? = some (.cells #[.int .i64 ((rd_T31 t1 (ji0)).f0), .int .i64 ((rd_T31 t1 (ji0)).f1), .slice (some ad0) t1.length co0] 34 (0, 0))) := ⟨(by rw [hw]; exact (by refine sqPut (cs := #[.int .i64 ((rd_T31 t1 (ji0)).f0), .int .i64 t495, .slice (some ad0) t1.length co0]) ?_ 1; refine sqPut (cs := #[.int .i64 t494, .int .i64 t495, .slice (some ad0) t1.length co0]) ?_ 0; exact sqK B10))⟩; replace HB : Aside0 (Below w.heap.size w w5) := ⟨(by rw [hw]; exact (sqB4 HB E0 E1 E2 E3))⟩; clear hw; have hcz0 : w5.cell? ⟨g3, 0, none⟩ = some (.int .i64 ((rd_T31 t1 (ji0)).f0)) := (blk_cell B10.1 0).trans rfl; have hcz1 : w5.cell? ⟨g3, 1, none⟩ = some (.int .i64 ((rd_T31 t1 (ji0)).f1)) := (blk_cell B10.1 1).trans rfl; have hcz2 := sqZ B10 2 (.slice (some ad0) t1.length co0); have hfz0 := blk_frozen B10.1 0; have hfz1 := blk_frozen B10.1 1; have hfz2 := blk_frozen B10.1 2; have q1 : ((ji0) : Int) ≤ ((t1.length : Int) : Int) := of_decide_eq_true Z16; obtain ⟨i045, hi0, _, hsz0, _⟩ := info_parts info31; have hcut0 := cut_to (P := prog) 32 31 .i64 underlying32 hi0 (some ad0) t1.length co0 (ji0) (of_decide_eq_true Z16) q1 (Kd.Q_reads' O1.1).2.1; have hr0 := Kd.Q_take (m := ((ji0) : Int).toNat) O1.1 (by omega); have hy1 : y0.length = ((ji0) : Int).toNat := (by rw [Ny0.out, List.length_take]; omega); rw [← Ny0.out] at hr0; rw [← hy1] at hr0 hcut0; clear hy1 hi0 hsz0 O1; have O2 := sqa hr0; clear hr0; replace q1 := eq_true q1; have := sqn4 N3 N2 N5 N4; have := sqY3 B9))
     refine bodyPost_ret (results_ct rfl _ _ g2 34 #[.int .i64 ((rd_T31 t1 (ji0)).f0), .int .i64 ((rd_T31 t1 (ji0)).f1), .slice (some ad0) y0.length co0] (0, 0) _ rfl (by refine sqPut (cs := #[.int .i64 ((rd_T31 t1 (ji0)).f0), .int .i64 ((rd_T31 t1 (ji0)).f1), .slice none 0 0]) ?_ 2; refine sqPut (cs := #[.int .i64 ((rd_T31 t1 (ji0)).f0), .int .i64 0, .slice none 0 0]) ?_ 1; refine sqPut (cs := #[.int .i64 0, .int .i64 0, .slice none 0 0]) ?_ 0; refine sqFar ?_ N10; exact sqK B9) underlying34 rfl (by kernel_rfl)) rfl ?_
     exact ⟨_, by first | rfl | (simp [errP_none, errP_some] <;> rfl) | (simp only [← hji0]; first | rfl | (simp [errP_none, errP_some] <;> rfl)) | (simp [*, errP_none, errP_some] <;> rfl), (by (with_reducible repeat (first | apply Kd.Q_alloc | apply Kd.Q_drewN | apply Kd.Q_drew)); exact Kd.Q_mono (Kd.Q_far (p := ⟨g2, 2, none⟩) (Kd.Q_far (p := ⟨g2, 1, none⟩) (Kd.Q_far (p := ⟨g2, 0, none⟩) (Kd.Q_far (p := ⟨g3, 2, none⟩) (Kd.Q_types (Kd.Q_types O2.1 B10.1 (by decide)) B9.1 (by decide)) (fun _ hk => hk.1.2) (.slice (some ad0) y0.length co0)) (fun _ hk => hk.2) (.int .i64 ((rd_T31 t1 (ji0)).f0))) (fun _ hk => hk.2) (.int .i64 ((rd_T31 t1 (ji0)).f1))) (fun _ hk => hk.2) (.slice (some ad0) y0.length co0)) (fun _ hk => trivial)), sqB4 HB E0 E1 E2 E3⟩
    rw [if_neg sqF] at H
    obtain ⟨⟨t504, t505, t2⟩, A0, H⟩ := sqD H
    try dsimp only at H
    have HC0 := sqa H
    clear H
    have := sqn6 N0 N1 N2 N3 N6 N7
    have := sqY3 B0
    have := sqn4 N4 N5 N8 N9
    have := sqY2 B2
    go_upto_region 10 with (first | ((with_reducible refine sqc 57 rfl ?_); refine sqv (some 45) func57 (F69.c kj5 a0_0 a0_1 a1_0 a1_1 t504 t505 t2 _ A0.1) fun w6 hb => ?_; replace O1 := sqa (Kd.Q_below (Z40 O1) hb); obtain ⟨B0, B2, B9, B10⟩ := sqT4 hb B0 B2 B9 B10; replace HB := sqS (sqB4 HB E0 E1 E2 E3) hb) | ((with_reducible refine sqd 8 rfl ?_); (try (refine gate_guard (by rfl) ?_; dsimp only)); refine sqx w (sqB4 HB E0 E1 E2 E3) #[.int .i64 0, .int .i64 0] 31 fun gb507 hg w59 B13 E4 HB hb => ?_; replace O1 := sqa (Kd.Q_below (Kd.Q_elderB (Z40 O1) gb507 (Nat.le_of_eq hg.symm)) hb); obtain ⟨N12, N13⟩ := sqM hg B0; replace B0 := sqT B0 hb; obtain ⟨N14, N15⟩ := sqM hg B2; replace B2 := sqT B2 hb; obtain ⟨N16, N17⟩ := sqM hg B9; replace B9 := sqT B9 hb; obtain ⟨N18, N19⟩ := sqM hg B10; replace B10 := sqT B10 hb; clear hb hg; have := sqn6 N13 N12 N15 N14 N17 N16; have := sqn2 N19 N18; have := sqY2 B13))
    (try simp only [Act.put, List.setIfInBounds_toArray, List.set_cons_zero, List.set_cons_succ])
    go_cut [55] (fun v1 wc => ∃ (kq : Nat) (x1 : Bool), v1 = .bool x1 ∧ Aside0 (F16.j1 kq x1 t494 t495 t1 t504 t505 = some (r1, r2, r3, r4)) ∧ Aside0 (kq ≤ kj5) ∧ Aside0 (Kd.Q k31 31 wc w.heap.size (fun k_ => k_ ≠ gb507) (.slice Ao0 t1.length co0) t1) ∧ Aside0 (wc.heap[g0]? = some (.cells #[.int .i64 a0_0, .int .i64 a0_1, (.slice A0_2 l0_2.length c0_2)] 34 (0, 0))) ∧ Aside0 (wc.heap[g1]? = some (.cells #[.int .i64 a1_0, .string a1_1] 38 (0, 0))) ∧ Aside0 (wc.heap[g2]? = some (.cells #[.int .i64 0, .int .i64 0, (.slice none 0 0)] 34 (0, 0))) ∧ Aside0 (wc.heap[g3]? = some (.cells #[.int .i64 t494, .int .i64 t495, (.slice Ao0 t1.length co0)] 34 (0, 0))) ∧ Aside0 (wc.heap[gb507]? = some (.cells #[.int .i64 t504, .int .i64 t505] 31 (0, 0))) ∧ Aside0 (Below w.heap.size w wc))
    case first =>
     have H := HC0.1
     clear HC0
     obtain rfl | rfl := sqt t2
     ·rw [if_pos rfl] at H
      have H' := sqa H
      clear H
      have := sqn6 N13 N12 N15 N14 N17 N16
      have := sqn2 N19 N18
      have := sqY2 B13
      have := sqn6 N0 N1 N2 N3 N6 N7
      have := sqY3 B0
      go_wp2
      go_meet
      case rel => exact ⟨_, ((t504 == a0_0 && (t505 == a0_1))), Z1, H', ⟨Z41⟩, ⟨Z42 O1⟩, ⟨Z9 N12 B0⟩, ⟨Z9 N14 B2⟩, ⟨Z9 N16 B9⟩, ⟨Z9 N18 B10⟩, ⟨Z43 B13⟩, ⟨Z44 E0 E1 E2 E3 E4⟩⟩
     rw [if_neg sqF] at H
     have H' := sqa H
     clear H
     go_wp2
     go_meet
     case rel => exact ⟨_, (true), Z1, H', ⟨Z41⟩, ⟨Z42 O1⟩, ⟨Z9 N12 B0⟩, ⟨Z9 N14 B2⟩, ⟨Z9 N16 B9⟩, ⟨Z9 N18 B10⟩, ⟨Z43 B13⟩, ⟨Z44 E0 E1 E2 E3 E4⟩⟩
    case rest =>
     clear HC0
     obtain ⟨kq, x1, rfl, HA, HJ0, O1, B0, B2, B9, B10, B13, HB⟩ := hcut
     cases kq with
     | zero => exact absurd HA.out (by simp [F16.j1])
     | succ kj0 =>
      have H := HA.out
      clear HA
      simp only [F16.j1] at H
      obtain rfl | rfl := sqt x1
      ·rw [if_pos rfl] at H
       obtain ⟨rfl, rfl, rfl, rfl⟩ := sqO4 H
       have := sqn6 N7 N6 N9 N8 N11 N10
       have := sqn2 N18 N19
       have := sqY3 B10
       have := sqn6 N3 N2 N5 N4 N16 N17
       have := sqY3 B9
       go_wp2
       refine sqE g2 34 #[.int .i64 t494, .int .i64 t495, .slice Ao0 t1.length co0] (Z39 B9) underlying34 ?_
       exact ⟨_, Z5, by (with_reducible repeat (first | apply Kd.Q_alloc | apply Kd.Q_drewN | apply Kd.Q_drew)); exact Kd.Q_mono (sqq3 O1.1 B9.1) (fun _ hk => trivial), Z44 E0 E1 E2 E3 E4⟩
      rw [if_neg sqF] at H
      obtain ⟨c85, H⟩ := sqI H
      have LMc0 := sqa c85
      clear c85
      obtain ⟨y1, hy2⟩ : ∃ y_ : List (S31), y_ = (t1 ++ [(⟨t494, t495⟩ : S31)]) := ⟨_, rfl⟩
      replace H : (if (y1.length : Int) > 8 then (if 1 ≤ (y1.length : Int) then (some (t504, t505, (y1.drop (1 : Int).toNat), true)) else (none)) else (some (t504, t505, y1, true))) = some (r1, r2, r3, r4) := sqW hy2 H
      have Ny1 := sqa hy2
      clear hy2
      obtain ⟨c86, H⟩ | ⟨c86, H⟩ := sqi2 H
      ·have c17 : decide (8 < (y1.length : Int)) = true := decide_eq_true c86
       have c18 : decide (8 < y1.length) = true := decide_eq_true (by omega)
       clear c86
       obtain ⟨c20, c21, H⟩ := sqJ3 H
       obtain ⟨y2, hy3⟩ : ∃ y_ : List (S31), y_ = (y1.drop (1 : Int).toNat) := ⟨_, rfl⟩
       replace H : (some (t504, t505, y2, true)) = some (r1, r2, r3, r4) := sqW hy3 H
       have Ny2 := sqa hy3
       clear hy3
       obtain ⟨rfl, rfl, rfl, rfl⟩ := sqO4 H
       have := sqn6 N7 N6 N9 N8 N11 N10
       have := sqn2 N18 N19
       have := sqY3 B10
       go_wp2_with (first | ((with_reducible refine gate_builtin (b := .append) (xs := #[.tmp 58, .tmp 61]) rfl ?_); (try (refine gate_guard (by rfl) ?_; dsimp only)); at_builtin; refine Kd.Q_append k31 (w0 := w) w.heap.size rfl (.tmp 58) (.tmp 61) 32 31 (.agg #[(.int .i64 0), (.int .i64 0)]) 16 rfl underlying32 info31 rfl (by decide) (by omega) (.slice Ao0 t1.length co0) t1 (⟨t494, t495⟩ : S31) [.int .i64 t494, .int .i64 t495] (fun k_ => k_ ≠ gb507) (fun _ => False) rfl rfl ?aP (fun _ hk => hk.elim) ?aF ?aO ?aB ?aS ?aL ?_; (case aP => exact k31_mkM _ _ _ (⟨t494, t495⟩ : S31)); (case aB => exact (Z44 E0 E1 E2 E3 E4)); (case aF => exact (fun k_ hk => Kd.freshB (sqK B13) k_ hk)); (case aO => exact (Z40 O1)); (case aS => exact (below_size (Z44 E0 E1 E2 E3 E4))); (case aL => exact Z2 LMc0); intro v2 w93 ho hb hg hat; rw [← Ny1.out] at ho; replace B0 := sqa (blk_grown (sqK B0) hg (Kd.Q_ne O1.1 B0.1 (by decide))); replace B2 := sqa (blk_grown (sqK B2) hg (Kd.Q_ne O1.1 B2.1 (by decide))); replace B9 := sqa (blk_grown (sqK B9) hg (Kd.Q_ne O1.1 B9.1 (by decide))); replace B10 := sqa (blk_grown (sqK B10) hg (Kd.Q_ne O1.1 B10.1 (by decide))); replace B13 := sqa (blk_grown (sqK B13) hg (Kd.Q_away O1.1 (fun _ hk => hk))); replace HB := sqa (hb); have O3 := sqa (ho); clear O1; clear ho hb hg hat; obtain ⟨Ao1, co1, eo1, _⟩ := Kd.Q_slice O3.1; subst eo1; have := sqY3 B10) | ((with_reducible refine gate_store (t := 32) (p := 63) rfl ?_); refine store_event (t := 32) (p := 63) (v := ?vo_w1) (w1 := (w93.setCell ⟨g3, 2, none⟩ (.slice Ao1 y1.length co1))) ?hg ?ho ?hn ?hr ?_; (case ho => rfl); (case hg => rfl); (case hn => rfl); (case hr => exact Z17); intro w96 hw; replace O3 : Aside0 (Kd.Q k31 31 w96 w.heap.size (fun k_ => k_ ≠ gb507) (.slice Ao1 y1.length co1) y1) := ⟨(by rw [hw]; exact (by (with_reducible repeat (first | apply Kd.Q_alloc | apply Kd.Q_drewN | apply Kd.Q_drew)); exact Kd.Q_mono (Kd.Q_far (p := ⟨g3, 2, none⟩) (Kd.Q_types O3.1 B10.1 (by decide)) (fun _ hk => hk.2) (.slice Ao1 y1.length co1)) (fun _ hk => hk.1)))⟩; replace B0 : Aside0 (w96.heap[g0]? = some (.cells #[.int .i64 a0_0, .int .i64 a0_1, .slice A0_2 l0_2.length c0_2] 34 (0, 0))) := ⟨(by rw [hw]; exact (Z3 N6 B0))⟩; replace B2 : Aside0 (w96.heap[g1]? = some (.cells #[.int .i64 a1_0, .string a1_1] 38 (0, 0))) := ⟨(by rw [hw]; exact (Z3 N8 B2))⟩; replace B9 : Aside0 (w96.heap[g2]? = some (.cells #[.int .i64 0, .int .i64 0, .slice none 0 0] 34 (0, 0))) := ⟨(by rw [hw]; exact (Z3 N10 B9))⟩; replace B10 : Aside0 (w96.heap[g3]? = some (.cells #[.int .i64 t494, .int .i64 t495, .slice Ao1 y1.length co1] 34 (0, 0))) := ⟨(by rw [hw]; exact (by refine sqPut (cs := #[.int .i64 t494, .int .i64 t495, .slice Ao0 t1.length co0]) ?_ 2; exact sqK B10))⟩; replace B13 : Aside0 (w96.heap[gb507]? = some (.cells #[.int .i64 t504, .int .i64 t505] 31 (0, 0))) := ⟨(by rw [hw]; exact (Z3 N19 B13))⟩; replace HB : Aside0 (Below w.heap.size w w96) := ⟨(by rw [hw]; exact (Z44 E0 E1 E2 E3 E4))⟩; clear hw; have := sqY3 B10; have q2 : (1 : Int) ≤ ((y1.length : Int) : Int) := of_decide_eq_true Z16; obtain ⟨i098, hi1, _, hsz1, _⟩ := info_parts info31; have hcut1 := cut_from (P := prog) 32 31 .i64 underlying32 hi1 2 hsz1 Ao1 y1.length co1 1 (by omega) q2; have hr1 := Kd.Q_drop (k := (1 : Int).toNat) O3.1 (by omega); obtain ⟨A2, hA0⟩ : ∃ A1, A1 = (if co1 = (1 : Int).toNat then Ao1 else (Ao1 : Option Addr).map (·.add ((1 : Int).toNat * 2))) := ⟨_, rfl⟩; obtain ⟨c98, hc0⟩ : ∃ c1, c1 = co1 - (1 : Int).toNat := ⟨_, rfl⟩; have hy4 : y2.length = y1.length - (1 : Int).toNat := (by rw [Ny2.out, List.length_drop]); rw [← Ny2.out] at hr1; rw [← hy4, ← hA0, ← hc0] at hcut1; replace hr1 : Kd.Q k31 31 w96 w.heap.size (fun k_ => k_ ≠ gb507) (.slice A2 y2.length c98) y2 := (by rw [hA0, hc0, hy4]; exact hr1); have HE0 : Aside0 ((Value.slice A2 y2.length c98).ownBlock = (.slice Ao1 y1.length co1 : Value).ownBlock) := ⟨by rw [hA0]; split <;> (cases (Ao1 : Option Addr) <;> rfl)⟩; clear hy4 hi1 hsz1 O3 hA0 hc0; have O4 := sqa hr1; clear hr1; replace q2 := eq_true q2; have := sqn6 N13 N12 N15 N14 N17 N16; have := sqY2 B13; have := sqn4 N3 N2 N5 N4; have := sqY3 B9))
       refine sqE g2 34 #[.int .i64 t504, .int .i64 t505, .slice A2 y2.length c98] (Z45 N10 B9) underlying34 ?_
       exact ⟨_, Z5, by (with_reducible repeat (first | apply Kd.Q_alloc | apply Kd.Q_drewN | apply Kd.Q_drew)); exact Kd.Q_mono (Kd.Q_far (p := ⟨g2, 2, none⟩) (Kd.Q_far (p := ⟨g2, 1, none⟩) (Kd.Q_far (p := ⟨g2, 0, none⟩) (Kd.Q_far (p := ⟨g3, 1, none⟩) (Kd.Q_far (p := ⟨g3, 0, none⟩) (Kd.Q_far (p := ⟨g3, 2, none⟩) (Kd.Q_types (Kd.Q_types O4.1 B10.1 (by decide)) B9.1 (by decide)) (fun _ hk => hk.1.2) (.slice A2 y2.length c98)) (fun _ hk => hk.1.2) (.int .i64 t504)) (fun _ hk => hk.1.2) (.int .i64 t505)) (fun _ hk => hk.2) (.int .i64 t504)) (fun _ hk => hk.2) (.int .i64 t505)) (fun _ hk => hk.2) (.slice A2 y2.length c98)) (fun _ hk => trivial), Z44 E0 E1 E2 E3 E4⟩
      have c17 : decide (8 < (y1.length : Int)) = false := decide_eq_false c86
      have c18 : decide (8 < y1.length) = false := decide_eq_false (by omega)
      clear c86
      obtain ⟨rfl, rfl, rfl, rfl⟩ := sqO4 H
      have := sqn6 N7 N6 N9 N8 N11 N10
      have := sqn2 N18 N19
      have := sqY3 B10
      go_wp2_with (first | ((with_reducible refine gate_builtin (b := .append) (xs := #[.tmp 58, .tmp 61]) rfl ?_); (try (refine gate_guard (by rfl) ?_; dsimp only)); at_builtin; refine Kd.Q_append k31 (w0 := w) w.heap.size rfl (.tmp 58) (.tmp 61) 32 31 (.agg #[(.int .i64 0), (.int .i64 0)]) 16 rfl underlying32 info31 rfl (by decide) (by omega) (.slice Ao0 t1.length co0) t1 (⟨t494, t495⟩ : S31) [.int .i64 t494, .int .i64 t495] (fun k_ => k_ ≠ gb507) (fun _ => False) rfl rfl ?aP (fun _ hk => hk.elim) ?aF ?aO ?aB ?aS ?aL ?_; (case aP => exact k31_mkM _ _ _ (⟨t494, t495⟩ : S31)); (case aB => exact (Z44 E0 E1 E2 E3 E4)); (case aF => exact (fun k_ hk => Kd.freshB (sqK B13) k_ hk)); (case aO => exact (Z40 O1)); (case aS => exact (below_size (Z44 E0 E1 E2 E3 E4))); (case aL => exact Z2 LMc0); intro v2 w14 ho hb hg hat; rw [← Ny1.out] at ho; replace B0 := sqa (blk_grown (sqK B0) hg (Kd.Q_ne O1.1 B0.1 (by decide))); replace B2 := sqa (blk_grown (sqK B2) hg (Kd.Q_ne O1.1 B2.1 (by decide))); replace B9 := sqa (blk_grown (sqK B9) hg (Kd.Q_ne O1.1 B9.1 (by decide))); replace B10 := sqa (blk_grown (sqK B10) hg (Kd.Q_ne O1.1 B10.1 (by decide))); replace B13 := sqa (blk_grown (sqK B13) hg (Kd.Q_away O1.1 (fun _ hk => hk))); replace HB := sqa (hb); have O3 := sqa (ho); clear O1; clear ho hb hg hat; obtain ⟨Ao2, co2, eo2, _⟩ := Kd.Q_slice O3.1; subst eo2; have := sqY3 B10; have := sqn6 N13 N12 N15 N14 N17 N16; have := sqY2 B13; have := sqn4 N3 N2 N5 N4; have := sqY3 B9))
      refine sqE g2 34 #[.int .i64 t504, .int .i64 t505, .slice Ao2 y1.length co2] (Z45 N10 B9) underlying34 ?_
      exact ⟨_, Z5, by (with_reducible repeat (first | apply Kd.Q_alloc | apply Kd.Q_drewN | apply Kd.Q_drew)); exact Kd.Q_mono (Kd.Q_far (p := ⟨g2, 2, none⟩) (Kd.Q_far (p := ⟨g2, 1, none⟩) (Kd.Q_far (p := ⟨g2, 0, none⟩) (Kd.Q_far (p := ⟨g3, 1, none⟩) (Kd.Q_far (p := ⟨g3, 0, none⟩) (Kd.Q_far (p := ⟨g3, 2, none⟩) (Kd.Q_types (Kd.Q_types O3.1 B10.1 (by decide)) B9.1 (by decide)) (fun _ hk => hk.1.2) (.slice Ao2 y1.length co2)) (fun _ hk => hk.1.2) (.int .i64 t504)) (fun _ hk => hk.1.2) (.int .i64 t505)) (fun _ hk => hk.2) (.int .i64 t504)) (fun _ hk => hk.2) (.int .i64 t505)) (fun _ hk => hk.2) (.slice Ao2 y1.length co2)) (fun _ hk => trivial), Z44 E0 E1 E2 E3 E4⟩
 rw [if_neg sqF] at H
 obtain ⟨rfl, rfl, rfl, rfl⟩ := sqO4 H
 go_enter func14, ntmps14
 go_wp2_with (first | ((with_reducible refine sqd 2 rfl ?_); (try (refine gate_guard (by rfl) ?_; dsimp only)); refine sqx0 w (sqB HB) #[.int .i64 a0_0, .int .i64 a0_1, .slice A0_2 l0_2.length c0_2] 34 fun g0 w17 B0 E0 HB => ?_) | ((with_reducible refine sqd 3 rfl ?_); (try (refine gate_guard (by rfl) ?_; dsimp only)); refine sqx1 w (sqB1 HB E0) #[.int .i64 a1_0, .string a1_1] 38 B0 fun g1 w18 B2 E1 HB N0 N1 B0 => ?_) | ((with_reducible refine sqd 4 rfl ?_); (try (refine gate_guard (by rfl) ?_; dsimp only)); refine sqx w (sqB2 HB E0 E1) #[.int .i64 0, .int .i64 0, .slice none 0 0] 34 fun g2 hg w19 B9 E2 HB hb => ?_; obtain ⟨N2, N3⟩ := sqM hg B0; replace B0 := sqT B0 hb; obtain ⟨N4, N5⟩ := sqM hg B2; replace B2 := sqT B2 hb; clear hb hg; have := sqn4 N0 N1 N2 N3; have := sqY3 B0) | ((with_reducible refine sqc 30 rfl ?_); refine sqv (some 11) func30 (args := #[.agg #[.int .i64 a0_0, .int .i64 a0_1, .slice A0_2 l0_2.length c0_2]]) (F15.c k a0_0 a0_1 _ _ l0_2 false _ Z35 Z36 A3.1) fun w20 hb => ?_; obtain ⟨B0, B2, B9⟩ := sqT3 hb B0 B2 B9; replace HB := sqS (sqB3 HB E0 E1 E2) hb; have := sqn2 N5 N4; have := sqY3 B9))
 refine sqE g2 34 #[.int .i64 0, .int .i64 0, .slice none 0 0] (Z46 B9) underlying34 ?_
 exact ⟨_, Z5, Kd.Q_of_R Z47, sqB3 HB E0 E1 E2⟩

end Go.Proofs.YtofmlbgfcohhoaaGreatDoor.PFnDeskSay
