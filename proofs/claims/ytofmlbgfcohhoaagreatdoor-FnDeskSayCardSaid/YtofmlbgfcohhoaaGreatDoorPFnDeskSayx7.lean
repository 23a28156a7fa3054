import Derived.Test.YtofmlbgfcohhoaaGreatDoorPFnDeskSayx2
import Derived.Test.YtofmlbgfcohhoaaGreatDoorPFnDeskSayx6
set_option maxHeartbeats 8000000
set_option maxRecDepth 100000
namespace Go.Proofs.YtofmlbgfcohhoaaGreatDoor.PFnDeskSay
open Go.RowKit Go.Proofs.YtofmlbgfcohhoaaGreatDoorW.PrintWords Go.Proofs.YtofmlbgfcohhoaaGreatDoorW.PrintLast Go.Proofs.YtofmlbgfcohhoaaGreatDoorW.PrintMore Go.Proofs.YtofmlbgfcohhoaaGreatDoor.Lib Go.Proofs.Tryz
attribute [local go_sem] max2_int min2_int max_two min_two max_three min_three max_four min_four   -- for this text's walks alone
set_option linter.unusedVariables false
set_option linter.unusedSimpArgs false

attribute [local go_sem high] eqA31 eqA38
def F31.j0 : Nat → Bool → Int → Int → List (S31) → Int → Int → Option (Int × Int × (List (S31)) × Bool)
 | 0, _, _, _, _, _, _ => none
 | k + 1, x0, x1, x2, x3, x4, x5 => if x0 = true then (some (x1, x2, x3, false)) else (if x3.length < 8796093022208 then ((some (x3 ++ [(⟨x1, x2⟩ : S31)] : List (S31))).bind fun y0 => (if (y0.length : Int) > 8 then (if 1 ≤ (y0.length : Int) then ((F12.f x4 x5 (y0.drop (1 : Int).toNat)).bind fun bt0 => (some (bt0.1, bt0.2.1, bt0.2.2, true))) else (none)) else ((F12.f x4 x5 y0).bind fun bt1 => (some (bt1.1, bt1.2.1, bt1.2.2, true))))) else (none))
def F31.f (k : Nat) (a0_0 : Int) (a0_1 : Int) (l0_2 : List (S31)) (a1_0 : Int) (a1_1 : ByteArray) : Option (Int × Int × (List (S31)) × Bool) := (F12.f a0_0 a0_1 l0_2).bind fun bt0 => (if (a1_0 == 4 && (a1_1.toList == ([] : List UInt8))) = true then (if (wrap64 ((bt0.2.2.length : Int) - 1)) < 0 then (some (bt0.1, bt0.2.1, bt0.2.2, false)) else (if 0 ≤ (wrap64 ((bt0.2.2.length : Int) - 1)) then (if (wrap64 ((bt0.2.2.length : Int) - 1)) < (bt0.2.2.length : Int) then (if (wrap64 ((bt0.2.2.length : Int) - 1)) ≤ (bt0.2.2.length : Int) then ((F12.f ((rd_T31 bt0.2.2 (wrap64 ((bt0.2.2.length : Int) - 1))).f0) ((rd_T31 bt0.2.2 (wrap64 ((bt0.2.2.length : Int) - 1))).f1) (bt0.2.2.take ((wrap64 ((bt0.2.2.length : Int) - 1)) : Int).toNat)).bind fun bt1 => (some (bt1.1, bt1.2.1, bt1.2.2, true))) else (none)) else (none)) else (none))) else ((F55.f k a0_0 a0_1 a1_0 a1_1).bind fun bt2 => (if bt2.2.2 = true then (F31.j0 k (bt2.1 == a0_0 && (bt2.2.1 == a0_1)) bt0.1 bt0.2.1 bt0.2.2 bt2.1 bt2.2.1) else (F31.j0 k true bt0.1 bt0.2.1 bt0.2.2 bt2.1 bt2.2.1))))
def F31.T6 : Bool × List (List Nat × List Nat) := (true, [([], []), ([0], [0]), ([], []), ([1, 2], [1, 2]), ([3], [3]), ([], []), ([5], [5]), ([], []), ([6, 7], [6, 7]), ([4, 8], [4, 8]), ([9], [9]), ([10, 10, 0, 1, 2, 3, 4, 5, 6, 7, 8, 9, 10], [10]), ([11, 0, 1, 2, 3, 4, 5, 6, 7, 8, 9, 10, 11], [])])
def F31.B6 : List Nat := [0, 1, 0, 7, 15, 0, 32, 0, 224, 511, 1023, 2047, 4095]
theorem F31.tab6 : rtab .any (opsOf f61 6) = F31.T6 := by kernel_rfl
theorem F31.bits6 : waitsOk F31.T6.2 F31.B6 = true := by kernel_rfl
theorem F31.c (k : Nat) (a0_0 : Int) (a0_1 : Int) (A0_2 : Option Addr) (c0_2 : Nat) (l0_2 : List (S31)) (a1_0 : Int) (a1_1 : ByteArray) (r1 : Int) (r2 : Int) (r3 : List (S31)) (r4 : Bool) (w : World) (hG : Glob w) (hr0_2 : Kd.C k31 w A0_2 l0_2.length l0_2) (hc0_2 : l0_2.length ≤ c0_2) (H : F31.f k a0_0 a0_1 l0_2 a1_0 a1_1 = some (r1, r2, r3, r4)) :
  Calls prog 61 #[.agg #[.int .i64 a0_0, .int .i64 a0_1, .slice A0_2 l0_2.length c0_2], .agg #[.int .i64 a1_0, .string a1_1]] w fun e w' => ∃ v2_ : Value, e = .returned (.tuple #[.agg #[.int .i64 r1, .int .i64 r2, v2_], .bool r4]) ∧ Kd.R k31 31 w' w.heap.size (fun _ => True) v2_ r3 ∧ Below w.heap.size w w' := by
 have hu34 := underlying34
 have hu38 := underlying38
 have hu31 := underlying31
 have HR0_2 := sqa hr0_2
 have HC0_2 := sqa hc0_2
 clear hr0_2 hc0_2
 have HB := sqh w
 unfold F31.f at H
 obtain ⟨⟨t199, t200, t0⟩, A3, H⟩ := sqD H
 try dsimp only at H
 go_enter func61, ntmps61
 go_upto_if 15 with (first | ((with_reducible refine sqd 2 rfl ?_); refine sqx0 w (sqB HB) #[.int .i64 a0_0, .int .i64 a0_1, .slice A0_2 l0_2.length c0_2] 34 fun g0 w6 B0 E0 HB => ?_) | ((with_reducible refine sqd 3 rfl ?_); refine sqx1 w (sqB1 HB E0) #[.int .i64 a1_0, .string a1_1] 38 B0 fun g1 w7 B2 E1 HB N0 N1 B0 => ?_) | ((with_reducible refine sqd 4 rfl ?_); refine sqx w (sqB2 HB E0 E1) #[.int .i64 0, .int .i64 0, .slice none 0 0] 34 fun g2 hg w8 B9 E2 HB hb => ?_; obtain ⟨N2, N3⟩ := sqM hg B0; replace B0 := sqT B0 hb; obtain ⟨N4, N5⟩ := sqM hg B2; replace B2 := sqT B2 hb; clear hb hg; have := sqn4 N0 N1 N2 N3; have := sqY3 B0) | ((with_reducible refine sqc 76 rfl ?_); refine sqvo (some 12) func76 (args := #[.agg #[.int .i64 a0_0, .int .i64 a0_1, .slice A0_2 l0_2.length c0_2]]) (F12.c a0_0 a0_1 _ _ l0_2 t199 t200 t0 _ Z35 Z36 A3.1) fun v0 w2 ho0 hb => ?_; have O0 := sqL ho0 (sqB3 HB E0 E1 E2); obtain ⟨B0, B2, B9⟩ := sqT3 hb B0 B2 B9; replace HB := sqS (sqB3 HB E0 E1 E2) hb; (try clear ho0)) | ((with_reducible refine sqd 6 rfl ?_); refine sqx w (sqB3 HB E0 E1 E2) #[.int .i64 0, .int .i64 0, .slice none 0 0] 34 fun g3 hg w3 B10 E3 HB hb => ?_; replace O0 := sqU O0 hb; obtain ⟨N6, N7⟩ := sqM hg B0; replace B0 := sqT B0 hb; obtain ⟨N8, N9⟩ := sqM hg B2; replace B2 := sqT B2 hb; obtain ⟨N10, N11⟩ := sqM hg B9; replace B9 := sqT B9 hb; clear hb hg; obtain ⟨Ao0, co0, eo0⟩ := Kd.R_slice O0.1; subst eo0; have := sqn6 N7 N6 N9 N8 N11 N10; have := sqY3 B10; have := sqn2 N4 N5; have := sqY2 B2; have := sqY3 B9; have := sqY3 B0))
 obtain ⟨c4, H⟩ | ⟨c4, H⟩ := sqi2 H
 ·have c4b0 : (a1_0 == 4 && (a1_1.toList == ([] : List UInt8))) = true := c4
  try have c4b8 : (a1_0 == 4 && a1_1.toList.isEmpty) = true := by (have h_ := c4b0; (repeat rw [sqy] at h_); exact h_)
  (try (have c4b1 : decide (a1_0 = 4 && (a1_1.toList == ([] : List UInt8))) = true := by simpa using c4))
  (try (have c4b2 : (a1_0 == 4 && (a1_1.toList == ([] : List UInt8))) = true := by simpa using c4))
  (first | rw [c4b0] | rw [c4b1] | rw [c4b2] | rw [c4b8] | simp only [i64_w, i32_w, c4b0, c4b1] | skip)
  clear c4
  go_upto_if 21 with fail
  obtain ⟨c5, H⟩ | ⟨c5, H⟩ := sqi2 H
  ·have c5b0 : decide ((wrap64 ((t0.length : Int) - 1)) < 0) = true := decide_eq_true c5
   (first | rw [c5b0] | simp only [i64_w, i32_w, c5b0] | skip)
   clear c5
   obtain ⟨rfl, rfl, rfl, rfl⟩ := sqO4 H
   go_wp2_with fail
   refine sqE g2 34 #[.int .i64 t199, .int .i64 t200, .slice Ao0 t0.length co0] (by refine sqPut (cs := #[.int .i64 t199, .int .i64 t200, .slice none 0 0]) ?_ 2; refine sqPut (cs := #[.int .i64 t199, .int .i64 0, .slice none 0 0]) ?_ 1; refine sqPut (cs := #[.int .i64 0, .int .i64 0, .slice none 0 0]) ?_ 0; refine sqFar ?_ N10; refine sqFar ?_ N10; refine sqFar ?_ N10; exact sqK B9) underlying34 ?_
   exact ⟨_, Z5, by (with_reducible repeat (first | apply Kd.R_alloc | apply Kd.R_drewN | apply Kd.R_drew)); exact Kd.R_mono (Kd.R_far (p := ⟨g2, 2, none⟩) (Kd.R_far (p := ⟨g2, 1, none⟩) (Kd.R_far (p := ⟨g2, 0, none⟩) (Kd.R_far (p := ⟨g3, 2, none⟩) (Kd.R_far (p := ⟨g3, 1, none⟩) (Kd.R_far (p := ⟨g3, 0, none⟩) (Kd.R_types (Kd.R_types O0.1 B10.1 (by decide)) B9.1 (by decide)) (fun _ hk => hk.1.2) (.int .i64 t199)) (fun _ hk => hk.1.2) (.int .i64 t200)) (fun _ hk => hk.1.2) (.slice Ao0 t0.length co0)) (fun _ hk => hk.2) (.int .i64 t199)) (fun _ hk => hk.2) (.int .i64 t200)) (fun _ hk => hk.2) (.slice Ao0 t0.length co0)) (fun _ hk => trivial), sqB4 HB E0 E1 E2 E3⟩
  have c5b0 : decide ((wrap64 ((t0.length : Int) - 1)) < 0) = false := decide_eq_false c5
  (first | rw [c5b0] | simp only [i64_w, i32_w, c5b0] | skip)
  clear c5
  obtain ⟨ji22, hji22⟩ : ∃ j_ : Int, (wrap64 ((t0.length : Int) - 1)) = j_ := ⟨_, rfl⟩
  replace H : (if 0 ≤ (ji22) then (if (ji22) < (t0.length : Int) then (if (ji22) ≤ (t0.length : Int) then ((F12.f ((rd_T31 t0 (ji22)).f0) ((rd_T31 t0 (ji22)).f1) (t0.take ((ji22) : Int).toNat)).bind fun bt0 => (some (bt0.1, bt0.2.1, bt0.2.2, true))) else (none)) else (none)) else (none)) = some (r1, r2, r3, r4) := by first | (rw [hji22] at H; exact H) | (simp only [hji22] at H ⊢; exact H)
  (try rw [hji22] at c5b0)
  (try rw [hji22] at A3)
  have hji0 : (IntKind.i64.wrap ((t0.length : Int) - 1)) = ji22 := (i64_w _).trans hji22
  obtain ⟨c2, H⟩ := sqJ2 H
  obtain ⟨c6, H⟩ := sqJ2 H
  have c7 := eq_true (of_decide_eq_true Z16 : 0 ≤ (ji22))
  obtain ⟨c9, c10, H⟩ := sqJ3 H
  obtain ⟨y0, hy0⟩ : ∃ y_ : List (S31), y_ = (t0.take ((ji22) : Int).toNat) := ⟨_, rfl⟩
  replace H : ((F12.f ((rd_T31 t0 (ji22)).f0) ((rd_T31 t0 (ji22)).f1) y0).bind fun bt0 => (some (bt0.1, bt0.2.1, bt0.2.2, true))) = some (r1, r2, r3, r4) := sqW hy0 H
  have Ny0 := sqa hy0
  clear hy0
  obtain ⟨⟨t210, t1, t212⟩, A0, H⟩ := sqD H
  try dsimp only at H
  obtain ⟨rfl, rfl, rfl, rfl⟩ := sqO4 H
  try go_wp2_with fail
  obtain ⟨w4, hw_⟩ : ∃ w_, ((w3.setCell ⟨g3, 0, none⟩ (.int .i64 t199)).setCell ⟨g3, 1, none⟩ (.int .i64 t200)).setCell ⟨g3, 2, none⟩ (.slice Ao0 t0.length co0) = w_ := ⟨_, rfl⟩
  replace O0 : Aside0 (Kd.R k31 31 w4 w.heap.size (fun _ => True) (.slice Ao0 t0.length co0) t0) := by rw [← hw_]; exact ⟨by (with_reducible repeat (first | apply Kd.R_alloc | apply Kd.R_drewN | apply Kd.R_drew)); exact Kd.R_mono (sqr3 O0.1 B10.1) (fun _ hk => trivial)⟩
  replace B0 := sqJ hw_ N6 B0
  replace B2 := sqJ hw_ N8 B2
  replace B9 := sqJ hw_ N10 B9
  replace B10 : Aside0 (w4.heap[g3]? = some (.cells #[.int .i64 t199, .int .i64 t200, .slice Ao0 t0.length co0] 34 (0, 0))) := by rw [← hw_]; exact ⟨Z109 B10⟩
  replace HB : Aside0 (Below w.heap.size w w4) := by rw [← hw_]; exact ⟨sqB4 HB E0 E1 E2 E3⟩
  rw [hw_]; clear hw_
  replace O0 := sqa (Kd.R_drew O0.1)
  replace B0 := sqa (blk_drew B0.1)
  replace B2 := sqa (blk_drew B2.1)
  replace B9 := sqa (blk_drew B9.1)
  replace B10 := sqa (blk_drew B10.1)
  replace HB := sqa (below_drew1 HB.1)
  have p0 : 0 ≤ ((ji22) : Int) := of_decide_eq_true Z16
  have q0 : (ji22) < (t0.length : Int) := of_decide_eq_true Z16
  obtain ⟨ad0, e0, hx0, hx1⟩ := at_T31 (Kd.R_reads' O0.1).2.2 (ji22) p0 q0
  cases e0
  replace p0 := eq_true p0
  replace q0 := eq_true q0
  have q1 : ((ji22) : Int) ≤ ((t0.length : Int) : Int) := of_decide_eq_true Z16
  obtain ⟨i045, hi0, _, hsz0, _⟩ := info_parts info31
  have hroom0 : t0.length ≤ co0 := (Kd.R_reads' O0.1).2.1
  have hC0 : Kd.C k31 _ (some ad0) t0.length t0 := (Kd.R_reads' O0.1).2.2
  have hcut0 := cut_to (P := prog) 32 31 .i64 underlying32 hi0 (some ad0) t0.length co0 (ji22) (of_decide_eq_true Z16) q1 hroom0
  have hr0 := Kd.C_take (m := ((ji22) : Int).toNat) hC0 (by omega)
  have hy1 : y0.length = ((ji22) : Int).toNat := (by rw [Ny0.out, List.length_take]; omega)
  rw [← Ny0.out] at hr0
  rw [← hy1] at hcut0
  have HR0 := sqa hr0
  have HC0 := sqa (show y0.length ≤ co0 from by omega)
  clear hr0 hC0 hroom0 hi0 hsz0
  have KY0 := sqa hy1
  clear hy1
  have KL0 := sqa (show ((ji22) : Int).toNat ≤ t0.length from by omega)
  replace q1 := eq_true q1
  refine start_ (n := 13) (S := fun w' => w'.cell? ⟨g3, 0, none⟩ = some (.int .i64 t199) ∧ w'.cell? ⟨g3, 1, none⟩ = some (.int .i64 t200) ∧ w'.cell? ⟨g3, 2, none⟩ = some (.slice (some ad0) t0.length co0) ∧ w'.cell? (ad0.add (((ji22)).toNat * 2)) = some (.int .i64 ((rd_T31 t0 (ji22)).f0)) ∧ w'.cell? ⟨(ad0.add (((ji22)).toNat * 2)).block, (ad0.add (((ji22)).toNat * 2)).off + 1, none⟩ = some (.int .i64 ((rd_T31 t0 (ji22)).f1))) (ds := []) #[false, false, false, false, false, false, false, false, false, false, false, false, false] (by kernel_rfl) rfl rfl ⟨(blk_cell B10.1 0).trans rfl, (blk_cell B10.1 1).trans rfl, (blk_cell B10.1 2).trans rfl, hx0, hx1⟩ (fun hHeld => ?_); refine with_tabW F31.tab6 F31.bits6 (fun HT_ HW_ => ?_)
  generalize w4.drew = w5 at O0 B0 B2 B9 B10 HB HR0 hx0 hx1 hHeld ⊢
  refine sqP 0 (some 23) (h := ?_)
  refine sqP 2 (some 25) (h := ?_)
  refine sqP 5 (some 28) (h := ?_)
  refine sqP 7 (some 30) (h := ?_)
  refine sqQ 1 (some 24) hHeld (h := ?_)
  refine sqP 3 (some 26) (h := ?_)
  refine sqQ 4 (some 27) hHeld (h := ?_)
  refine sqQ 6 (some 29) hHeld (h := ?_)
  refine sqP 8 (some 31) (h := ?_)
  refine sqP 9 (some 32) (h := ?_)
  refine sq1 10 (some 33) (h := fun K hK => ?_)
  refine goes_ func76 (by kernel_rfl) rfl #[.agg #[.int .i64 ((rd_T31 t0 (ji22)).f0), .int .i64 ((rd_T31 t0 (ji22)).f1), .slice (some ad0) y0.length co0]] (by rfl) rfl rfl (by (try simp only [List.map_toArray, List.map_cons, List.map_nil]); first | done | (simp only [hji22]; rfl) | rfl | (simp only [List.length_drop, List.length_take]; rfl)) ?_
  with_reducible refine (F12.c ((rd_T31 t0 (ji22)).f0) ((rd_T31 t0 (ji22)).f1) _ _ y0 t210 t1 t212 _ ?side1 ?side2 A0.1).mono ?_
  (case side1 => exact Z175 HR0)
  (case side2 => exact HC0.1)
  rintro e w9 ⟨v1, rfl, ho0, hb⟩
  have HS3_ := (hb.cell (World.block_lt_of_cell? _ _ (hHeld.2.2.2.1))).trans (hHeld.2.2.2.1)
  have HS4_ := (hb.cell (World.block_lt_of_cell? _ _ (hHeld.2.2.2.2))).trans (hHeld.2.2.2.2)
  refine ⟨_, rfl, ?_⟩
  have O1 := sqa (Kd.R_lower (Kd.R_new' ho0 (Kd.R_lt (sqR O0))) (below_size (sqB4 HB E0 E1 E2 E3)))
  replace O0 := sqa (Kd.R_elder' (sqR O0) (Kd.R_base ho0) hb)
  replace B0 := sqT B0 hb
  replace B2 := sqT B2 hb
  replace B9 := sqT B9 hb
  replace B10 := sqT B10 hb
  replace HR0 := sqa (Kd.C_below (Z110 HR0) hb)
  replace HB := sqS (sqB4 HB E0 E1 E2 E3) hb
  obtain ⟨Ao1, co1, eo1⟩ := Kd.R_slice O1.1
  (first | subst eo1 | (injection eo1 with f1_ f2_ f3_; have f4_ := f1_.symm; have f5_ := f3_.symm; clear f1_ f2_ f3_; subst f4_; subst f5_))
  refine hK.out _ _ ⟨(blk_cell B10.1 0).trans rfl, (blk_cell B10.1 1).trans rfl, (blk_cell B10.1 2).trans rfl, HS3_, HS4_⟩ (fun hHeld => ?_)
  clear hK K
  refine sqN (some 33) ?_
  refine sq1 11 none (h := fun K hK => ?_)
  have := sqY3 B9
  have := sqn6 N2 N4 N11 N3 N5 N10
  refine skip_ (w1 := ?_) (by rfl) rfl ?_ ?_
  rotate_left
  ·go_simp
   rfl
  refine hK.out _ _ ⟨((cell_far (p := ⟨g2, _, none⟩) N11.1 _).trans (((cell_far (p := ⟨g2, _, none⟩) N11.1 _).trans (((cell_far (p := ⟨g2, _, none⟩) N11.1 _).trans (hHeld.1)))))), ((cell_far (p := ⟨g2, _, none⟩) N11.1 _).trans (((cell_far (p := ⟨g2, _, none⟩) N11.1 _).trans (((cell_far (p := ⟨g2, _, none⟩) N11.1 _).trans (hHeld.2.1)))))), ((cell_far (p := ⟨g2, _, none⟩) N11.1 _).trans (((cell_far (p := ⟨g2, _, none⟩) N11.1 _).trans (((cell_far (p := ⟨g2, _, none⟩) N11.1 _).trans (hHeld.2.2.1)))))), ((cell_far (p := ⟨g2, _, none⟩) (Z111 O0 B9) _).trans (((cell_far (p := ⟨g2, _, none⟩) (Z111 O0 B9) _).trans (((cell_far (p := ⟨g2, _, none⟩) (Z111 O0 B9) _).trans (hHeld.2.2.2.1)))))), ((cell_far (p := ⟨g2, _, none⟩) (Z111 O0 B9) _).trans (((cell_far (p := ⟨g2, _, none⟩) (Z111 O0 B9) _).trans (((cell_far (p := ⟨g2, _, none⟩) (Z111 O0 B9) _).trans (hHeld.2.2.2.2))))))⟩ (fun hHeld => ?_)
  clear hK K
  refine sqP 12 (some 5) (h := ?_)
  refine done_ (done_of HT_.out (by kernel_rfl)) ?_
  try go_wp2
  refine sqE g2 34 #[.int .i64 t210, .int .i64 t1, .slice Ao1 t212.length co1] (by refine sqPut (cs := #[.int .i64 t210, .int .i64 t1, .slice none 0 0]) ?_ 2; refine sqPut (cs := #[.int .i64 t210, .int .i64 0, .slice none 0 0]) ?_ 1; refine sqPut (cs := #[.int .i64 0, .int .i64 0, .slice none 0 0]) ?_ 0; exact sqK B9) underlying34 ?_
  exact ⟨_, Z58, by (with_reducible repeat (first | apply Kd.R_alloc | apply Kd.R_drewN | apply Kd.R_drew)); exact Kd.R_mono (sqr3 O1.1 B9.1) (fun _ hk => trivial), sqB4 HB E0 E1 E2 E3⟩
 have c4b0 : (a1_0 == 4 && (a1_1.toList == ([] : List UInt8))) = false := by simpa using c4
 try have c4b8 : (a1_0 == 4 && a1_1.toList.isEmpty) = false := by (have h_ := c4b0; (repeat rw [sqy] at h_); exact h_)
 (try (have c4b1 : decide (a1_0 = 4 && (a1_1.toList == ([] : List UInt8))) = false := by simpa using c4))
 (try (have c4b2 : (a1_0 == 4 && (a1_1.toList == ([] : List UInt8))) = false := by simpa using c4))
 (try (have c4b3 : ¬ (a1_0 = 4 && (a1_1.toList == ([] : List UInt8))) := by simpa using c4))
 (first | rw [c4b0] | rw [c4b1] | rw [c4b2] | rw [c4b3] | rw [c4b8] | simp only [i64_w, i32_w, c4b0, c4b1] | skip)
 clear c4
 obtain ⟨⟨t215, t216, t2⟩, A2, H⟩ := sqD H
 try dsimp only at H
 have HC1 := sqa H
 clear H
 go_upto_region 8 with (first | ((with_reducible refine sqc 111 rfl ?_); refine sqv (some 38) func111 (args := #[.agg #[.int .i64 a0_0, .int .i64 a0_1], .agg #[.int .i64 a1_0, .string a1_1]]) (F55.c k a0_0 a0_1 a1_0 a1_1 t215 t216 t2 _ (Glob.below hG (sqB4 HB E0 E1 E2 E3)) A2.1) fun w69 hb => ?_; replace O0 := sqa (Kd.R_below (by (with_reducible repeat (first | apply Kd.R_alloc | apply Kd.R_drewN | apply Kd.R_drew)); exact (Kd.R_mono (sqr3 O0.1 B10.1) (fun _ h_ => h_.1))) hb); replace B0 := sqH N6 B0 hb; replace B2 := sqH N8 B2 hb; replace B9 := sqH N10 B9 hb; replace B10 := sqa (blk_below (g := g3) (o := .cells #[.int .i64 t199, .int .i64 t200, .slice Ao0 t0.length co0] 34 (0, 0)) (Z109 B10) hb); replace HB := sqS (sqB4 HB E0 E1 E2 E3) hb) | ((with_reducible refine sqd 8 rfl ?_); refine sqx w (sqB4 HB E0 E1 E2 E3) #[.int .i64 0, .int .i64 0] 31 fun gb218 hg w70 B13 E4 HB hb => ?_; replace O0 := sqa (Kd.R_below (Kd.R_elderB (sqR O0) gb218 (Nat.le_of_eq hg.symm)) hb); obtain ⟨N12, N13⟩ := sqM hg B0; replace B0 := sqT B0 hb; obtain ⟨N14, N15⟩ := sqM hg B2; replace B2 := sqT B2 hb; obtain ⟨N16, N17⟩ := sqM hg B9; replace B9 := sqT B9 hb; obtain ⟨N18, N19⟩ := sqM hg B10; replace B10 := sqT B10 hb; clear hb hg; have := sqn6 N13 N12 N15 N14 N17 N16; have := sqn2 N19 N18; have := sqY2 B13))
 (try simp only [Act.put, List.setIfInBounds_toArray, List.set_cons_zero, List.set_cons_succ])
 go_cut [48] (fun v2 wc => ∃ (kq : Nat) (x0 : Bool), v2 = .bool x0 ∧ Aside0 (F31.j0 kq x0 t199 t200 t0 t215 t216 = some (r1, r2, r3, r4)) ∧ Aside0 (kq ≤ k) ∧ Aside0 (Kd.R k31 31 wc w.heap.size (fun k_ => k_ ≠ gb218) (.slice Ao0 t0.length co0) t0) ∧ Aside0 (wc.heap[g0]? = some (.cells #[.int .i64 a0_0, .int .i64 a0_1, (.slice A0_2 l0_2.length c0_2)] 34 (0, 0))) ∧ Aside0 (wc.heap[g1]? = some (.cells #[.int .i64 a1_0, .string a1_1] 38 (0, 0))) ∧ Aside0 (wc.heap[g2]? = some (.cells #[.int .i64 0, .int .i64 0, (.slice none 0 0)] 34 (0, 0))) ∧ Aside0 (wc.heap[g3]? = some (.cells #[.int .i64 t199, .int .i64 t200, (.slice Ao0 t0.length co0)] 34 (0, 0))) ∧ Aside0 (wc.heap[gb218]? = some (.cells #[.int .i64 t215, .int .i64 t216] 31 (0, 0))) ∧ Aside0 (Below w.heap.size w wc))
 case first =>
  have H := HC1.1
  clear HC1
  obtain rfl | rfl := sqt t2
  ·rw [if_pos rfl] at H
   have H' := sqa H
   clear H
   have := sqn6 N13 N12 N15 N14 N17 N16
   have := sqn2 N19 N18
   have := sqY2 B13
   have := sqn6 N0 N1 N2 N3 N6 N7
   have := sqY3 B0
   go_wp2
   go_meet
   case rel => exact ⟨_, ((t215 == a0_0 && (t216 == a0_1))), Z1, H', ⟨Z11⟩, ⟨Z112 O0⟩, ⟨Z9 N12 B0⟩, ⟨Z9 N14 B2⟩, ⟨Z9 N16 B9⟩, ⟨Z9 N18 B10⟩, ⟨Z113 B13⟩, ⟨Z44 E0 E1 E2 E3 E4⟩⟩
  rw [if_neg sqF] at H
  have H' := sqa H
  clear H
  go_wp2
  go_meet
  case rel => exact ⟨_, (true), Z1, H', ⟨Z11⟩, ⟨Z112 O0⟩, ⟨Z9 N12 B0⟩, ⟨Z9 N14 B2⟩, ⟨Z9 N16 B9⟩, ⟨Z9 N18 B10⟩, ⟨Z113 B13⟩, ⟨Z44 E0 E1 E2 E3 E4⟩⟩
 case rest =>
  clear HC1
  obtain ⟨kq, x0, rfl, HA, HJ0, O2, B0, B2, B9, B10, B13, HB⟩ := hcut
  cases kq with
  | zero => exact absurd HA.out (by simp [F31.j0])
  | succ kj0 =>
   have H := HA.out
   clear HA
   simp only [F31.j0] at H
   obtain rfl | rfl := sqt x0
   ·rw [if_pos rfl] at H
    obtain ⟨rfl, rfl, rfl, rfl⟩ := sqO4 H
    have := sqn6 N7 N6 N9 N8 N11 N10
    have := sqn2 N18 N19
    have := sqY3 B10
    have := sqn6 N3 N2 N5 N4 N16 N17
    have := sqY3 B9
    go_wp2
    refine sqE g2 34 #[.int .i64 t199, .int .i64 t200, .slice Ao0 t0.length co0] (Z109 B9) underlying34 ?_
    exact ⟨_, Z5, by (with_reducible repeat (first | apply Kd.R_alloc | apply Kd.R_drewN | apply Kd.R_drew)); exact Kd.R_mono (sqr3 O2.1 B9.1) (fun _ hk => trivial), Z44 E0 E1 E2 E3 E4⟩
   rw [if_neg sqF] at H
   obtain ⟨c96, H⟩ := sqI H
   have LMc0 := sqa c96
   clear c96
   obtain ⟨y1, hy2⟩ : ∃ y_ : List (S31), y_ = (t0 ++ [(⟨t199, t200⟩ : S31)]) := ⟨_, rfl⟩
   replace H : (if (y1.length : Int) > 8 then (if 1 ≤ (y1.length : Int) then ((F12.f t215 t216 (y1.drop (1 : Int).toNat)).bind fun bt1 => (some (bt1.1, bt1.2.1, bt1.2.2, true))) else (none)) else ((F12.f t215 t216 y1).bind fun bt2 => (some (bt2.1, bt2.2.1, bt2.2.2, true)))) = some (r1, r2, r3, r4) := sqW hy2 H
   have Ny1 := sqa hy2
   clear hy2
   obtain ⟨c97, H⟩ | ⟨c97, H⟩ := sqi2 H
   ·have c14 : decide (8 < (y1.length : Int)) = true := decide_eq_true c97
    have c15 : decide (8 < y1.length) = true := decide_eq_true (by omega)
    clear c97
    obtain ⟨c17, c18, H⟩ := sqJ3 H
    obtain ⟨y2, hy3⟩ : ∃ y_ : List (S31), y_ = (y1.drop (1 : Int).toNat) := ⟨_, rfl⟩
    replace H : ((F12.f t215 t216 y2).bind fun bt1 => (some (bt1.1, bt1.2.1, bt1.2.2, true))) = some (r1, r2, r3, r4) := sqW hy3 H
    have Ny2 := sqa hy3
    clear hy3
    obtain ⟨⟨t3, t4, t5⟩, A4, H⟩ := sqD H
    try dsimp only at H
    obtain ⟨rfl, rfl, rfl, rfl⟩ := sqO4 H
    have := sqn6 N7 N6 N9 N8 N11 N10
    have := sqn2 N18 N19
    have := sqY3 B10
    go_wp2_with (first | ((with_reducible refine gate_builtin (b := .append) (xs := #[.tmp 51, .tmp 54]) rfl ?_); at_builtin; refine Kd.R_append k31 (w0 := w) w.heap.size rfl (.tmp 51) (.tmp 54) 32 31 (.agg #[(.int .i64 0), (.int .i64 0)]) 16 rfl underlying32 info31 rfl (by decide) (by omega) (.slice Ao0 t0.length co0) t0 (⟨t199, t200⟩ : S31) [.int .i64 t199, .int .i64 t200] (fun k_ => k_ ≠ gb218) (fun _ => False) rfl rfl ?aP (fun _ hk => hk.elim) ?aF ?aO ?aB ?aS ?aL ?_; (case aP => exact k31_mkM _ _ _ (⟨t199, t200⟩ : S31)); (case aB => exact (Z44 E0 E1 E2 E3 E4)); (case aF => exact (fun k_ hk => Kd.freshB (sqK B13) k_ hk)); (case aO => exact (sqR O2)); (case aS => exact (below_size (Z44 E0 E1 E2 E3 E4))); (case aL => exact Z2 LMc0); intro v3 w14 ho hb hg hat; rw [← Ny1.out] at ho; replace B0 := sqa (blk_grown (sqK B0) hg (Kd.R_ne O2.1 B0.1 (by decide))); replace B2 := sqa (blk_grown (sqK B2) hg (Kd.R_ne O2.1 B2.1 (by decide))); replace B9 := sqa (blk_grown (sqK B9) hg (Kd.R_ne O2.1 B9.1 (by decide))); replace B10 := sqa (blk_grown (sqK B10) hg (Kd.R_ne O2.1 B10.1 (by decide))); replace B13 := sqa (blk_grown (sqK B13) hg (Kd.R_away O2.1 (fun _ hk => hk))); replace HB := sqa (hb); have O3 := sqa (ho); clear O2; clear ho hb hg hat; obtain ⟨Ao2, co2, eo2⟩ := Kd.R_slice O3.1; subst eo2; have q2 : (1 : Int) ≤ ((y1.length : Int) : Int) := of_decide_eq_true Z16; obtain ⟨i0107, hi1, _, hsz1, _⟩ := info_parts info31; have hcut1 := cut_from (P := prog) 32 31 .i64 underlying32 hi1 2 hsz1 Ao2 y1.length co2 1 (by omega) q2; have hr1 := Kd.Q_drop (k := (1 : Int).toNat) (Kd.Q_of_R O3.1) (by omega); obtain ⟨A5, hA0⟩ : ∃ A1, A1 = (if co2 = (1 : Int).toNat then Ao2 else (Ao2 : Option Addr).map (·.add ((1 : Int).toNat * 2))) := ⟨_, rfl⟩; obtain ⟨c19, hc0⟩ : ∃ c1, c1 = co2 - (1 : Int).toNat := ⟨_, rfl⟩; have hy4 : y2.length = y1.length - (1 : Int).toNat := (by rw [Ny2.out, List.length_drop]); rw [← Ny2.out] at hr1; rw [← hy4, ← hA0, ← hc0] at hcut1; replace hr1 : Kd.Q k31 31 w14 w.heap.size (fun k_ => k_ ≠ gb218) (.slice A5 y2.length c19) y2 := (by rw [hA0, hc0, hy4]; exact hr1); have HE0 : Aside0 ((Value.slice A5 y2.length c19).ownBlock = (.slice Ao2 y1.length co2 : Value).ownBlock) := ⟨by rw [hA0]; split <;> (cases (Ao2 : Option Addr) <;> rfl)⟩; clear hy4 hi1 hsz1 O3 hA0 hc0; have O4 := sqa hr1; clear hr1; replace q2 := eq_true q2; have := sqn6 N13 N12 N15 N14 N17 N16; have := sqY2 B13) | ((with_reducible refine sqc 76 rfl ?_); refine sqvo (some 64) func76 (args := #[.agg #[.int .i64 t215, .int .i64 t216, .slice A5 y2.length c19]]) (F12.c t215 t216 _ _ y2 t3 t4 t5 _ (Z69 O4) (Z70 O4) A4.1) fun v4 w15 ho0 hb => ?_; have O5 := sqa (Kd.R_lower (Kd.R_newB (Kd.R_new' ho0 (Kd.Q_lt (Z40 O4))) (sqK B13)) (below_size (Z44 E0 E1 E2 E3 E4))); replace O4 := sqa (Kd.Q_elder' (Z40 O4) (Kd.R_base ho0) hb); obtain ⟨B0, B2, B9, B10, B13⟩ := sqT5 hb B0 B2 B9 B10 B13; replace HB := sqa (below_step (Z44 E0 E1 E2 E3 E4) hb); (try clear ho0); have := sqn4 N3 N2 N5 N4; have := sqY3 B9; obtain ⟨Ao3, co3, eo3⟩ := Kd.R_slice O5.1; subst eo3))
    refine sqE g2 34 #[.int .i64 t3, .int .i64 t4, .slice Ao3 t5.length co3] (by refine sqPut (cs := #[.int .i64 t3, .int .i64 t4, .slice none 0 0]) ?_ 2; refine sqPut (cs := #[.int .i64 t3, .int .i64 0, .slice none 0 0]) ?_ 1; refine sqPut (cs := #[.int .i64 0, .int .i64 0, .slice none 0 0]) ?_ 0; exact sqK B9) underlying34 ?_
    exact ⟨_, Z5, by (with_reducible repeat (first | apply Kd.R_alloc | apply Kd.R_drewN | apply Kd.R_drew)); exact Kd.R_mono (sqr3 O5.1 B9.1) (fun _ hk => trivial), Z44 E0 E1 E2 E3 E4⟩
   have c14 : decide (8 < (y1.length : Int)) = false := decide_eq_false c97
   have c15 : decide (8 < y1.length) = false := decide_eq_false (by omega)
   clear c97
   obtain ⟨⟨t6, t7, t232⟩, A6, H⟩ := sqD H
   try dsimp only at H
   obtain ⟨rfl, rfl, rfl, rfl⟩ := sqO4 H
   have := sqn6 N7 N6 N9 N8 N11 N10
   have := sqn2 N18 N19
   have := sqY3 B10
   go_wp2_with (first | ((with_reducible refine gate_builtin (b := .append) (xs := #[.tmp 51, .tmp 54]) rfl ?_); at_builtin; refine Kd.R_append k31 (w0 := w) w.heap.size rfl (.tmp 51) (.tmp 54) 32 31 (.agg #[(.int .i64 0), (.int .i64 0)]) 16 rfl underlying32 info31 rfl (by decide) (by omega) (.slice Ao0 t0.length co0) t0 (⟨t199, t200⟩ : S31) [.int .i64 t199, .int .i64 t200] (fun k_ => k_ ≠ gb218) (fun _ => False) rfl rfl ?aP (fun _ hk => hk.elim) ?aF ?aO ?aB ?aS ?aL ?_; (case aP => exact k31_mkM _ _ _ (⟨t199, t200⟩ : S31)); (case aB => exact (Z44 E0 E1 E2 E3 E4)); (case aF => exact (fun k_ hk => Kd.freshB (sqK B13) k_ hk)); (case aO => exact (sqR O2)); (case aS => exact (below_size (Z44 E0 E1 E2 E3 E4))); (case aL => exact Z2 LMc0); intro v3 w16 ho hb hg hat; rw [← Ny1.out] at ho; replace B0 := sqa (blk_grown (sqK B0) hg (Kd.R_ne O2.1 B0.1 (by decide))); replace B2 := sqa (blk_grown (sqK B2) hg (Kd.R_ne O2.1 B2.1 (by decide))); replace B9 := sqa (blk_grown (sqK B9) hg (Kd.R_ne O2.1 B9.1 (by decide))); replace B10 := sqa (blk_grown (sqK B10) hg (Kd.R_ne O2.1 B10.1 (by decide))); replace B13 := sqa (blk_grown (sqK B13) hg (Kd.R_away O2.1 (fun _ hk => hk))); replace HB := sqa (hb); have O3 := sqa (ho); clear O2; clear ho hb hg hat; obtain ⟨Ao4, co4, eo4⟩ := Kd.R_slice O3.1; subst eo4; have := sqn6 N13 N12 N15 N14 N17 N16; have := sqY2 B13) | ((with_reducible refine sqc 76 rfl ?_); refine sqvo (some 64) func76 (args := #[.agg #[.int .i64 t215, .int .i64 t216, .slice Ao4 y1.length co4]]) (F12.c t215 t216 _ _ y1 t6 t7 t232 _ (Z7 O3) (Z8 O3) A6.1) fun v233 w17 ho0 hb => ?_; have O6 := sqa (Kd.R_lower (Kd.R_newB (Kd.R_new' ho0 (Kd.R_lt (sqR O3))) (sqK B13)) (below_size (Z44 E0 E1 E2 E3 E4))); replace O3 := sqa (Kd.R_elder' (sqR O3) (Kd.R_base ho0) hb); obtain ⟨B0, B2, B9, B10, B13⟩ := sqT5 hb B0 B2 B9 B10 B13; replace HB := sqa (below_step (Z44 E0 E1 E2 E3 E4) hb); (try clear ho0); have := sqn4 N3 N2 N5 N4; have := sqY3 B9; obtain ⟨Ao5, co5, eo5⟩ := Kd.R_slice O6.1; subst eo5))
   refine sqE g2 34 #[.int .i64 t6, .int .i64 t7, .slice Ao5 t232.length co5] (by refine sqPut (cs := #[.int .i64 t6, .int .i64 t7, .slice none 0 0]) ?_ 2; refine sqPut (cs := #[.int .i64 t6, .int .i64 0, .slice none 0 0]) ?_ 1; refine sqPut (cs := #[.int .i64 0, .int .i64 0, .slice none 0 0]) ?_ 0; exact sqK B9) underlying34 ?_
   exact ⟨_, Z5, by (with_reducible repeat (first | apply Kd.R_alloc | apply Kd.R_drewN | apply Kd.R_drew)); exact Kd.R_mono (sqr3 O6.1 B9.1) (fun _ hk => trivial), Z44 E0 E1 E2 E3 E4⟩

end Go.Proofs.YtofmlbgfcohhoaaGreatDoor.PFnDeskSay
