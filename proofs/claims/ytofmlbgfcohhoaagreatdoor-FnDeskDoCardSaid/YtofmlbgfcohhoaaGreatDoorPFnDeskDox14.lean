/- Lean functions of the Go functions that the law FnDeskDo reaches, each with its contract: made by a program of this session. -/
import Derived.Test.YtofmlbgfcohhoaaGreatDoorPFnDeskDox13
namespace Go.Proofs.YtofmlbgfcohhoaaGreatDoor.PFnDeskDo
open Go.RowKit Go.Proofs.YtofmlbgfcohhoaaGreatDoorW.PrintWords Go.Proofs.YtofmlbgfcohhoaaGreatDoorW.PrintLast Go.Proofs.YtofmlbgfcohhoaaGreatDoorW.PrintMore Go.Proofs.YtofmlbgfcohhoaaGreatDoor.Lib
attribute [local go_sem] max2_int min2_int max_two min_two max_three min_three max_four min_four   -- for this text's walks alone
set_option linter.unusedVariables false
set_option linter.unusedSimpArgs false

/-! ### spec_l20Rd_pick: function 82 -/
def spec_l20Rd_pick.j0 : Nat → Int → Bool → List Int → Int → Option (Int × Int)
 | 0, _, _, _, _ => none
 | k + 1, x1, x24, x1000, x1001 => if x24 = true then (some (0, x1001)) else (if (wrap64 (x1001 - 1)) < (x1000.length : Int) then (if 0 ≤ (wrap64 (x1001 - 1)) then (if x1 = 0 then (none) else (some (Int.tmod (wrap64 (rd x1000 (wrap64 (x1001 - 1)))) x1, x1001))) else (none)) else (if (x1000.length : Int) = 0 then (none) else (if 0 ≤ (Int.tmod (wrap64 (x1001 - 1)) (x1000.length : Int)) then (if (Int.tmod (wrap64 (x1001 - 1)) (x1000.length : Int)) < (x1000.length : Int) then (if 0 ≤ (Int.tmod (wrap64 ((wrap64 ((wrap64 (x1001 - 1)) * 7)) + 3)) (x1000.length : Int)) then (if (Int.tmod (wrap64 ((wrap64 ((wrap64 (x1001 - 1)) * 7)) + 3)) (x1000.length : Int)) < (x1000.length : Int) then (if x1 = 0 then (none) else (some (Int.tmod (Go.bits .xor .i64 (wrap64 ((wrap64 ((wrap64 ((wrap64 ((wrap64 (rd x1000 (Int.tmod (wrap64 (x1001 - 1)) (x1000.length : Int)))) * 131)) + (wrap64 ((wrap64 (rd x1000 (Int.tmod (wrap64 ((wrap64 ((wrap64 (x1001 - 1)) * 7)) + 3)) (x1000.length : Int)))) * 1117)))) + (wrap64 ((wrap64 (x1001 - 1)) * 29)))) + (wrap64 ((wrap64 (Int.tdiv (wrap64 (x1001 - 1)) (x1000.length : Int))) * 53)))) (wrap64 (Int.tdiv (wrap64 ((wrap64 ((wrap64 ((wrap64 ((wrap64 (rd x1000 (Int.tmod (wrap64 (x1001 - 1)) (x1000.length : Int)))) * 131)) + (wrap64 ((wrap64 (rd x1000 (Int.tmod (wrap64 ((wrap64 ((wrap64 (x1001 - 1)) * 7)) + 3)) (x1000.length : Int)))) * 1117)))) + (wrap64 ((wrap64 (x1001 - 1)) * 29)))) + (wrap64 ((wrap64 (Int.tdiv (wrap64 (x1001 - 1)) (x1000.length : Int))) * 53)))) 64))) x1, x1001))) else (none)) else (none)) else (none)) else (none))))
def spec_l20Rd_pick.f (k : Nat) (s0_0 : List Int) (s0_1 : Int) (a1 : Int) : Option (Int × Int) := if a1 < 1 then (spec_l20Rd_pick.j0 k a1 true s0_0 (wrap64 (s0_1 + 1))) else (spec_l20Rd_pick.j0 k a1 ((s0_0.length : Int) == 0) s0_0 (wrap64 (s0_1 + 1)))
theorem spec_l20Rd_pick.mono_l : ∀ k, (∀ y0 y1 y2 y3, LeO (spec_l20Rd_pick.j0 k y0 y1 y2 y3) (spec_l20Rd_pick.j0 (k + 1) y0 y1 y2 y3))
 | 0 => fun _ _ _ _ r h => by simp [spec_l20Rd_pick.j0] at h
 | k + 1 => by
  have ih0 := spec_l20Rd_pick.mono_l k
  ·intro y0 y1 y2 y3
   unfold spec_l20Rd_pick.j0
   repeat' first
   | (with_reducible exact ih0 _ _ _ _)
   | (with_reducible exact LeO.refl _)
   | (with_reducible exact LeO.none _)
   | (with_reducible refine LeO.ite ?_ ?_)
   | (with_reducible refine LeO.bind ?_ (fun _ => ?_))
theorem spec_l20Rd_pick.mono : ∀ a0 a1 a2 k, LeO (spec_l20Rd_pick.f k a0 a1 a2) (spec_l20Rd_pick.f (k + 1) a0 a1 a2) := by
 intro a0 a1 a2 k
 have ih0 := spec_l20Rd_pick.mono_l k
 unfold spec_l20Rd_pick.f
 repeat' first
   | (with_reducible exact ih0 _ _ _ _)
   | (with_reducible exact LeO.refl _)
   | (with_reducible exact LeO.none _)
   | (with_reducible refine LeO.ite ?_ ?_)
   | (with_reducible refine LeO.bind ?_ (fun _ => ?_))
set_option maxHeartbeats 8000000 in
set_option maxRecDepth 100000 in
theorem spec_l20Rd_pick.calls (k : Nat) (g : Nat) (s0_0 : List Int) (s0_1 : Int) (a1 : Int) (r1 : Int) (r2 : Int) (w0 w : World) (hI : IsS131 w0 w g s0_0 s0_1) (hB : Below w0.heap.size w0 w) (h : spec_l20Rd_pick.f k s0_0 s0_1 a1 = some (r1, r2)) :
  Calls Tryz.prog 82 #[.pointer (some ⟨g, 0, none⟩), .int .i64 a1] w fun e w' => e = .returned (.int .i64 r1) ∧ IsS131 w0 w' g s0_0 r2 ∧ Below w0.heap.size w0 w' ∧ KeepBut w w' g none := by
 have HI0 := Aside0.mk hI
 have HK := Aside0.mk (KeepBut.refl w g none)
 have HL := Aside0.mk hB.size
 clear hI
 have HW0 := Aside0.mk hB.size
 have HB := Aside0.mk hB
 clear hB
 have H : (if a1 < 1 then (spec_l20Rd_pick.j0 k a1 true s0_0 (wrap64 (s0_1 + 1))) else (spec_l20Rd_pick.j0 k a1 ((s0_0.length : Int) == 0) s0_0 (wrap64 (s0_1 + 1)))) = some (r1, r2) := h
 clear h
 have HC3 := Aside0.mk H
 clear H
 obtain ⟨ASz4_0, cSz4_0, HGz4, hgz4, HSz4_0⟩ := HI0.out
 have hcz4_0 := cellS131_0 HGz4
 have hcz4_1 := cellS131_1 HGz4
 have hfz4_1 := blk_frozen HGz4 1
 clear HGz4 hgz4
 go_enter Tryz.func82, Tryz.ntmps82
 go_upto_region 2 with (fail)
 repeat (go_quiet (fail); go_upto_region 2 with (fail))
 go_cut [24] (fun v24 wc => ∃ (kq : Nat) (x24_2 : Bool), v24 = .bool x24_2 ∧ Aside0 (spec_l20Rd_pick.j0 kq a1 x24_2 s0_0 (wrap64 (s0_1 + 1)) = some (r1, r2)) ∧ Aside0 (kq ≤ k) ∧ Aside0 (IsS131 w0 wc g s0_0 (wrap64 (s0_1 + 1))) ∧ Aside0 (KeepBut w wc g none) ∧ Aside0 (Below w0.heap.size w0 wc))
 case first =>
  have H := HC3.out
  clear HC3
  by_cases c5 : a1 < 1
  ·rw [if_pos c5] at H
   have c5b0 : decide (a1 < 1) = true := decide_eq_true c5
   clear c5
   (first | rw [c5b0] | (simp only [i64_w, i32_w]; rw [c5b0]) | skip)
   have H' := Aside0.mk H
   clear H
   go_wp2
   repeat (go_quiet (fail); try go_wp2)
   go_meet
   case rel => exact ⟨_, (true), Z1, H', ⟨Z16⟩, ⟨Z34 HI0⟩, ⟨Z35⟩, ⟨Z36 HI0⟩⟩
  ·rw [if_neg c5] at H
   have c5b0 : decide (a1 < 1) = false := decide_eq_false c5
   clear c5
   (first | rw [c5b0] | (simp only [i64_w, i32_w]; rw [c5b0]) | skip)
   have H' := Aside0.mk H
   clear H
   obtain ⟨ASz6_0, cSz6_0, HGz6, hgz6, HSz6_0⟩ := HI0.out
   have hcz6_0 := cellS131_0 HGz6
   have hcz6_1 := cellS131_1 HGz6
   have hfz6_1 := blk_frozen HGz6 1
   clear HGz6 hgz6
   go_wp2
   repeat (go_quiet (fail); try go_wp2)
   go_meet
   case rel => exact ⟨_, (((s0_0.length : Int) == 0)), Z1, H', ⟨Z16⟩, ⟨Z34 HI0⟩, ⟨Z35⟩, ⟨Z36 HI0⟩⟩
 case rest =>
  clear HC3
  try clear p2; try clear c5; try clear c5b0; try clear p6; try clear hcz4_0; try clear hcz4_1; try clear hcz6_0; try clear hcz6_1; try clear hfz4_1; try clear hfz6_1
  obtain ⟨kq, x24_2, rfl, HA, HJ2, HI0, HK, HB⟩ := hcut
  cases kq with
  | zero => exact absurd HA.out (by simp [spec_l20Rd_pick.j0])
  | succ kj2 =>
   have H := HA.out
   clear HA
   simp only [spec_l20Rd_pick.j0] at H
   by_cases c7 : x24_2 = true
   ·subst c7
    rw [if_pos rfl] at H
    obtain ⟨rfl, rfl⟩ := sqO2 H
    go_wp2
    repeat (go_quiet (fail); try go_wp2)
    go_ret
    exact ⟨Z3, Z34 HI0, Z36 HI0, Z35⟩
   ·replace c7 := Bool.eq_false_iff.mpr c7
    subst c7
    rw [if_neg sqF] at H
    by_cases c8 : (wrap64 ((wrap64 (s0_1 + 1)) - 1)) < (s0_0.length : Int)
    ·rw [if_pos c8] at H
     have c8b0 : decide ((wrap64 ((wrap64 (s0_1 + 1)) - 1)) < (s0_0.length : Int)) = true := decide_eq_true c8
     clear c8
     obtain ⟨ji9, hji9⟩ : ∃ j_ : Int, (wrap64 ((wrap64 (s0_1 + 1)) - 1)) = j_ := ⟨_, rfl⟩
     replace H : (if 0 ≤ (ji9) then (if a1 = 0 then (none) else (some (Int.tmod (wrap64 (rd s0_0 (ji9))) a1, (wrap64 (s0_1 + 1))))) else (none)) = some (r1, r2) := by first | (rw [hji9] at H; exact H) | (simp only [hji9] at H ⊢; exact H)
     (try rw [hji9] at c8b0)
     have hji9w : (IntKind.i64.wrap ((wrap64 (s0_1 + 1)) - 1)) = ji9 := (i64_w _).trans hji9
     obtain ⟨c10, H⟩ := sqI H
     have c10b0 : decide (0 ≤ (ji9)) = true := decide_eq_true c10
     clear c10
     by_cases c11 : a1 = 0
     ·rw [if_pos c11] at H
      exact absurd H (by simp)
     ·rw [if_neg c11] at H
      have c11b0 : (a1 == 0) = false := beq_eq_false_iff_ne.mpr c11
      have c11b1 : (a1 != 0) = true := bne_iff_ne.mpr c11
      obtain ⟨rfl, rfl⟩ := sqO2 H
      obtain ⟨ASz12_0, cSz12_0, HGz12, hgz12, HSz12_0⟩ := HI0.out
      have hcz12_0 := cellS131_0 HGz12
      have hcz12_1 := cellS131_1 HGz12
      have hfz12_1 := blk_frozen HGz12 1
      clear HGz12 hgz12
      have p376 : 0 ≤ ((ji9) : Int) := of_decide_eq_true Z2
      have q376 : (ji9) < (s0_0.length : Int) := of_decide_eq_true Z2
      obtain ⟨ad376, e376, hx376_0⟩ := Kd.at_int HSz12_0 (ji9) p376 q376
      cases e376
      replace hx376_0 := pw_cell_below HB.out hx376_0
      replace p376 := eq_true p376
      replace q376 := eq_true q376
      go_wp2
      repeat (go_quiet (fail); try go_wp2)
      go_ret
      exact ⟨by first | rfl | (simp [errP_none, errP_some] <;> rfl) | (simp only [← hji9]; first | rfl | (simp [errP_none, errP_some] <;> rfl)) | (simp [*, errP_none, errP_some] <;> rfl), Z34 HI0, Z36 HI0, Z35⟩
    ·rw [if_neg c8] at H
     have c8b0 : decide ((wrap64 ((wrap64 (s0_1 + 1)) - 1)) < (s0_0.length : Int)) = false := decide_eq_false c8
     clear c8
     by_cases c13 : (s0_0.length : Int) = 0
     ·rw [if_pos c13] at H
      exact absurd H (by simp)
     ·rw [if_neg c13] at H
      have c13b0 : ((s0_0.length : Int) == 0) = false := beq_eq_false_iff_ne.mpr c13
      have c13b1 : ((s0_0.length : Int) != 0) = true := bne_iff_ne.mpr c13
      have c13b2 : ¬ (s0_0 = []) := fun h_ => c13 (by rw [h_]; rfl)
      obtain ⟨ji14, hji14⟩ : ∃ j_ : Int, (Int.tmod (wrap64 ((wrap64 (s0_1 + 1)) - 1)) (s0_0.length : Int)) = j_ := ⟨_, rfl⟩
      replace H : (if 0 ≤ (ji14) then (if (ji14) < (s0_0.length : Int) then (if 0 ≤ (Int.tmod (wrap64 ((wrap64 ((wrap64 ((wrap64 (s0_1 + 1)) - 1)) * 7)) + 3)) (s0_0.length : Int)) then (if (Int.tmod (wrap64 ((wrap64 ((wrap64 ((wrap64 (s0_1 + 1)) - 1)) * 7)) + 3)) (s0_0.length : Int)) < (s0_0.length : Int) then (if a1 = 0 then (none) else (some (Int.tmod (Go.bits .xor .i64 (wrap64 ((wrap64 ((wrap64 ((wrap64 ((wrap64 (rd s0_0 (ji14))) * 131)) + (wrap64 ((wrap64 (rd s0_0 (Int.tmod (wrap64 ((wrap64 ((wrap64 ((wrap64 (s0_1 + 1)) - 1)) * 7)) + 3)) (s0_0.length : Int)))) * 1117)))) + (wrap64 ((wrap64 ((wrap64 (s0_1 + 1)) - 1)) * 29)))) + (wrap64 ((wrap64 (Int.tdiv (wrap64 ((wrap64 (s0_1 + 1)) - 1)) (s0_0.length : Int))) * 53)))) (wrap64 (Int.tdiv (wrap64 ((wrap64 ((wrap64 ((wrap64 ((wrap64 (rd s0_0 (ji14))) * 131)) + (wrap64 ((wrap64 (rd s0_0 (Int.tmod (wrap64 ((wrap64 ((wrap64 ((wrap64 (s0_1 + 1)) - 1)) * 7)) + 3)) (s0_0.length : Int)))) * 1117)))) + (wrap64 ((wrap64 ((wrap64 (s0_1 + 1)) - 1)) * 29)))) + (wrap64 ((wrap64 (Int.tdiv (wrap64 ((wrap64 (s0_1 + 1)) - 1)) (s0_0.length : Int))) * 53)))) 64))) a1, (wrap64 (s0_1 + 1))))) else (none)) else (none)) else (none)) else (none)) = some (r1, r2) := by first | (rw [hji14] at H; exact H) | (simp only [hji14] at H ⊢; exact H)
      obtain ⟨c15, H⟩ := sqI H
      have c15b0 : decide (0 ≤ (ji14)) = true := decide_eq_true c15
      clear c15
      obtain ⟨c16, H⟩ := sqI H
      have c16b0 : decide ((ji14) < (s0_0.length : Int)) = true := decide_eq_true c16
      clear c16
      obtain ⟨ji17, hji17⟩ : ∃ j_ : Int, (Int.tmod (wrap64 ((wrap64 ((wrap64 ((wrap64 (s0_1 + 1)) - 1)) * 7)) + 3)) (s0_0.length : Int)) = j_ := ⟨_, rfl⟩
      replace H : (if 0 ≤ (ji17) then (if (ji17) < (s0_0.length : Int) then (if a1 = 0 then (none) else (some (Int.tmod (Go.bits .xor .i64 (wrap64 ((wrap64 ((wrap64 ((wrap64 ((wrap64 (rd s0_0 (ji14))) * 131)) + (wrap64 ((wrap64 (rd s0_0 (ji17))) * 1117)))) + (wrap64 ((wrap64 ((wrap64 (s0_1 + 1)) - 1)) * 29)))) + (wrap64 ((wrap64 (Int.tdiv (wrap64 ((wrap64 (s0_1 + 1)) - 1)) (s0_0.length : Int))) * 53)))) (wrap64 (Int.tdiv (wrap64 ((wrap64 ((wrap64 ((wrap64 ((wrap64 (rd s0_0 (ji14))) * 131)) + (wrap64 ((wrap64 (rd s0_0 (ji17))) * 1117)))) + (wrap64 ((wrap64 ((wrap64 (s0_1 + 1)) - 1)) * 29)))) + (wrap64 ((wrap64 (Int.tdiv (wrap64 ((wrap64 (s0_1 + 1)) - 1)) (s0_0.length : Int))) * 53)))) 64))) a1, (wrap64 (s0_1 + 1))))) else (none)) else (none)) = some (r1, r2) := by first | (rw [hji17] at H; exact H) | (simp only [hji17] at H ⊢; exact H)
      obtain ⟨c18, H⟩ := sqI H
      have c18b0 : decide (0 ≤ (ji17)) = true := decide_eq_true c18
      clear c18
      obtain ⟨c19, H⟩ := sqI H
      have c19b0 : decide ((ji17) < (s0_0.length : Int)) = true := decide_eq_true c19
      clear c19
      by_cases c20 : a1 = 0
      ·rw [if_pos c20] at H
       exact absurd H (by simp)
      ·rw [if_neg c20] at H
       have c20b0 : (a1 == 0) = false := beq_eq_false_iff_ne.mpr c20
       have c20b1 : (a1 != 0) = true := bne_iff_ne.mpr c20
       obtain ⟨rfl, rfl⟩ := sqO2 H
       obtain ⟨ASz21_0, cSz21_0, HGz21, hgz21, HSz21_0⟩ := HI0.out
       have hcz21_0 := cellS131_0 HGz21
       have hcz21_1 := cellS131_1 HGz21
       have hfz21_1 := blk_frozen HGz21 1
       clear HGz21 hgz21
       have p377 : 0 ≤ ((ji14) : Int) := of_decide_eq_true Z2
       have q377 : (ji14) < (s0_0.length : Int) := of_decide_eq_true Z2
       obtain ⟨ad377, e377, hx377_0⟩ := Kd.at_int HSz21_0 (ji14) p377 q377
       cases e377
       replace hx377_0 := pw_cell_below HB.out hx377_0
       replace p377 := eq_true p377
       replace q377 := eq_true q377
       have p378 : 0 ≤ ((ji17) : Int) := of_decide_eq_true Z2
       have q378 : (ji17) < (s0_0.length : Int) := of_decide_eq_true Z2
       obtain ⟨ad378, e378, hx378_0⟩ := Kd.at_int HSz21_0 (ji17) p378 q378
       obtain rfl : ad377 = ad378 := (by injection e378)
       replace hx378_0 := pw_cell_below HB.out hx378_0
       replace p378 := eq_true p378
       replace q378 := eq_true q378
       go_wp2
       repeat (go_quiet (fail); try go_wp2)
       go_ret
       exact ⟨by first | rfl | (simp [errP_none, errP_some] <;> rfl) | (simp only [← hji14, ← hji17]; first | rfl | (simp [errP_none, errP_some] <;> rfl)) | (simp [*, errP_none, errP_some] <;> rfl), Z34 HI0, Z36 HI0, Z35⟩

/-! ### spec_l20Rd_odd: function 74 -/
def spec_l20Rd_odd.f (k : Nat) (s0_0 : List Int) (s0_1 : Int) (a1 : Int) : Option (Bool × Int) := if a1 > 0 then ((spec_l20Rd_pick.f k s0_0 s0_1 a1).bind fun bt379 => (some ((bt379.1 == (wrap64 (a1 - 1))), bt379.2))) else (some (false, s0_1))
theorem spec_l20Rd_odd.mono : ∀ a0 a1 a2 k, LeO (spec_l20Rd_odd.f k a0 a1 a2) (spec_l20Rd_odd.f (k + 1) a0 a1 a2) := by
 intro a0 a1 a2 k
 unfold spec_l20Rd_odd.f
 repeat' first
   | (with_reducible exact spec_l20Rd_pick.mono _ _ _ _)
   | (with_reducible exact LeO.refl _)
   | (with_reducible exact LeO.none _)
   | (with_reducible refine LeO.ite ?_ ?_)
   | (with_reducible refine LeO.bind ?_ (fun _ => ?_))
set_option maxHeartbeats 8000000 in
set_option maxRecDepth 100000 in
theorem spec_l20Rd_odd.calls (k : Nat) (g : Nat) (s0_0 : List Int) (s0_1 : Int) (a1 : Int) (r1 : Bool) (r2 : Int) (w0 w : World) (hI : IsS131 w0 w g s0_0 s0_1) (hB : Below w0.heap.size w0 w) (h : spec_l20Rd_odd.f k s0_0 s0_1 a1 = some (r1, r2)) :
  Calls Tryz.prog 74 #[.pointer (some ⟨g, 0, none⟩), .int .i64 a1] w fun e w' => e = .returned (.bool r1) ∧ IsS131 w0 w' g s0_0 r2 ∧ Below w0.heap.size w0 w' ∧ KeepBut w w' g none := by
 have HI0 := Aside0.mk hI
 have HK := Aside0.mk (KeepBut.refl w g none)
 have HL := Aside0.mk hB.size
 clear hI
 have HW0 := Aside0.mk hB.size
 have HB := Aside0.mk hB
 clear hB
 have H : (if a1 > 0 then ((spec_l20Rd_pick.f k s0_0 s0_1 a1).bind fun bt379 => (some ((bt379.1 == (wrap64 (a1 - 1))), bt379.2))) else (some (false, s0_1))) = some (r1, r2) := h
 clear h
 by_cases c3 : a1 > 0
 ·rw [if_pos c3] at H
  have c3b0 : decide (0 < a1) = true := decide_eq_true c3
  clear c3
  obtain ⟨⟨t379, t380⟩, A4, H⟩ := sqD H
  try dsimp only at H
  obtain ⟨rfl, rfl⟩ := sqO2 H
  go_enter Tryz.func74, Tryz.ntmps74
  go_wp2_with (first | (go_at_call 82; (with_reducible refine (spec_l20Rd_pick.calls k g s0_0 s0_1 a1 t379 t380 w0 _ ?side1 ?side2 A4.out).mono ?_); (case side1 => exact Z34 HI0); (case side2 => exact Z36 HI0); rintro e w5 ⟨rfl, hi, hb, hk⟩; replace HK := Aside0.mk (KeepBut.trans Z35 hk (.inl rfl)); replace HB := Aside0.mk (hb); replace HI0 := Aside0.mk (hi); (try clear hb)))
  go_ret
  exact ⟨Z3, Z34 HI0, Z36 HI0, Z35⟩
 ·rw [if_neg c3] at H
  have c3b0 : decide (0 < a1) = false := decide_eq_false c3
  clear c3
  obtain ⟨rfl, rfl⟩ := sqO2 H
  go_enter Tryz.func74, Tryz.ntmps74
  go_wp2
  go_ret
  exact ⟨Z3, Z34 HI0, Z36 HI0, Z35⟩

/-! ### spec_l20Dance: function 114 -/
def spec_l20Dance.l0 : Nat → Int → ByteArray → Int → List Int → Int → Option (ByteArray × Int)
 | 0, _, _, _, _, _ => none
 | k + 1, x2, x7, x8, x1000, x1001 => if x8 > 0 then ((some (([(⟨#[84]⟩ : ByteArray), (⟨#[84]⟩ : ByteArray), (⟨#[82]⟩ : ByteArray), (⟨#[116]⟩ : ByteArray), (⟨#[82]⟩ : ByteArray), (⟨#[84]⟩ : ByteArray)] : List ByteArray) : List ByteArray)).bind fun y383 => ((spec_l20Rd_pick.f k x1000 x1001 6).bind fun bt386 => (if 0 ≤ bt386.1 then (if bt386.1 < (y383.length : Int) then (if x7.size + (rdOf ByteArray.empty y383 bt386.1).size ≤ 9223372036854775807 then (spec_l20Dance.l0 k x2 (x7 ++ (rdOf ByteArray.empty y383 bt386.1)) (wrap64 (x8 - 1)) x1000 bt386.2) else (none)) else (none)) else (none)))) else ((spec_l20Rd_odd.f k x1000 x1001 x2).bind fun bt389 => (if bt389.1 = true then ((some (([(⟨#[120]⟩ : ByteArray), (⟨#[114]⟩ : ByteArray), (⟨#[84, 84, 84, 84, 84, 84, 84, 84, 84, 84, 84, 84, 84, 84, 84, 84, 84, 84, 84, 84, 84, 84, 84, 84, 84, 84, 84, 84, 84, 84, 84, 84, 84, 84, 84, 84, 84, 84, 84, 84, 84]⟩ : ByteArray)] : List ByteArray) : List ByteArray)).bind fun y391 => ((spec_l20Rd_pick.f k x1000 bt389.2 3).bind fun bt394 => (if 0 ≤ bt394.1 then (if bt394.1 < (y391.length : Int) then (if x7.size + (rdOf ByteArray.empty y391 bt394.1).size ≤ 9223372036854775807 then (some (x7 ++ (rdOf ByteArray.empty y391 bt394.1), bt394.2)) else (none)) else (none)) else (none)))) else (some (x7, bt389.2))))
def spec_l20Dance.f (k : Nat) (s0_0 : List Int) (s0_1 : Int) (a1 : Int) (a2 : Int) : Option (ByteArray × Int) := (spec_l20Rd_pick.f k s0_0 s0_1 (wrap64 (a1 + 1))).bind fun bt381 => (spec_l20Dance.l0 k a2 (⟨#[]⟩ : ByteArray) bt381.1 s0_0 bt381.2)
theorem spec_l20Dance.mono_l : ∀ k, (∀ y0 y1 y2 y3 y4, LeO (spec_l20Dance.l0 k y0 y1 y2 y3 y4) (spec_l20Dance.l0 (k + 1) y0 y1 y2 y3 y4))
 | 0 => fun _ _ _ _ _ r h => by simp [spec_l20Dance.l0] at h
 | k + 1 => by
  have ih0 := spec_l20Dance.mono_l k
  ·intro y0 y1 y2 y3 y4
   unfold spec_l20Dance.l0
   repeat' first
   | (with_reducible exact ih0 _ _ _ _ _)
   | (with_reducible exact spec_l20Rd_odd.mono _ _ _ _)
   | (with_reducible exact spec_l20Rd_pick.mono _ _ _ _)
   | (with_reducible exact LeO.refl _)
   | (with_reducible exact LeO.none _)
   | (with_reducible refine LeO.ite ?_ ?_)
   | (with_reducible refine LeO.bind ?_ (fun _ => ?_))
theorem spec_l20Dance.mono : ∀ a0 a1 a2 a3 k, LeO (spec_l20Dance.f k a0 a1 a2 a3) (spec_l20Dance.f (k + 1) a0 a1 a2 a3) := by
 intro a0 a1 a2 a3 k
 have ih0 := spec_l20Dance.mono_l k
 unfold spec_l20Dance.f
 repeat' first
   | (with_reducible exact ih0 _ _ _ _ _)
   | (with_reducible exact spec_l20Rd_odd.mono _ _ _ _)
   | (with_reducible exact spec_l20Rd_pick.mono _ _ _ _)
   | (with_reducible exact LeO.refl _)
   | (with_reducible exact LeO.none _)
   | (with_reducible refine LeO.ite ?_ ?_)
   | (with_reducible refine LeO.bind ?_ (fun _ => ?_))
set_option maxHeartbeats 8000000 in
set_option maxRecDepth 100000 in
theorem spec_l20Dance.calls (k : Nat) (g : Nat) (s0_0 : List Int) (s0_1 : Int) (a1 : Int) (a2 : Int) (r1 : ByteArray) (r2 : Int) (w0 w : World) (hI : IsS131 w0 w g s0_0 s0_1) (hB : Below w0.heap.size w0 w) (h : spec_l20Dance.f k s0_0 s0_1 a1 a2 = some (r1, r2)) :
  Calls Tryz.prog 114 #[.pointer (some ⟨g, 0, none⟩), .int .i64 a1, .int .i64 a2] w fun e w' => e = .returned (.string r1) ∧ IsS131 w0 w' g s0_0 r2 ∧ Below w0.heap.size w0 w' ∧ KeepBut w w' g none := by
 have HI0 := Aside0.mk hI
 have HK := Aside0.mk (KeepBut.refl w g none)
 have HL := Aside0.mk hB.size
 clear hI
 have HW0 := Aside0.mk hB.size
 have HB := Aside0.mk hB
 clear hB
 have H : ((spec_l20Rd_pick.f k s0_0 s0_1 (wrap64 (a1 + 1))).bind fun bt381 => (spec_l20Dance.l0 k a2 (⟨#[]⟩ : ByteArray) bt381.1 s0_0 bt381.2)) = some (r1, r2) := h
 clear h
 obtain ⟨⟨t381, t382⟩, A4, H⟩ := sqD H
 try dsimp only at H
 have H' := Aside0.mk H
 clear H
 go_enter Tryz.func114, Tryz.ntmps114
 go_wp2_with (first | ((with_reducible refine gate_callee (f := 82) rfl ?_); refine goesL_ (some 12) rfl rfl Tryz.func82 (by kernel_rfl) rfl #[.pointer (some ⟨g, 0, none⟩), .int .i64 (wrap64 (a1 + 1))] rfl sqA ?_; (with_reducible refine (spec_l20Rd_pick.calls k g s0_0 s0_1 (wrap64 (a1 + 1)) t381 t382 w0 _ ?side1 ?side2 A4.out).mono ?_); (case side1 => exact Z34 HI0); (case side2 => exact Z36 HI0); rintro e w5 ⟨rfl, hi, hb, hk⟩; refine ⟨_, rfl, ?_⟩; replace HK := Aside0.mk (KeepBut.trans Z35 hk (.inl rfl)); replace HB := Aside0.mk (hb); replace HI0 := Aside0.mk (hi); (try clear hb)))
 go_loopg [7, 8] k (fun kq v7 v8 w' => ∃ (x7_1 : ByteArray) (x8_1 : Int) (x1001_1 : Int), v7 = .string x7_1 ∧ v8 = .int .i64 x8_1 ∧ Aside0 (spec_l20Dance.l0 kq a2 x7_1 x8_1 s0_0 x1001_1 = some (r1, r2)) ∧ Aside0 (kq ≤ k) ∧ Aside0 (IsS131 w0 w' g s0_0 x1001_1) ∧ Aside0 (KeepBut w w' g none) ∧ Aside0 (Below w0.heap.size w0 w'))
 case atStart => exact ⟨((⟨#[]⟩ : ByteArray)), (t381), (t382), Z1, Z1, H', ⟨Nat.le_refl _⟩, ⟨Z34 HI0⟩, ⟨Z35⟩, ⟨Z36 HI0⟩⟩
 case round =>
  clear H'
  try clear c1; try clear p2
  obtain ⟨x7_1, x8_1, x1001_1, rfl, rfl, HA, HK1, HI0, HK, HB⟩ := hrel
  cases gk with
  | zero => exact absurd HA.out (by simp [spec_l20Dance.l0])
  | succ k1 =>
   have H := HA.out
   clear HA
   simp only [spec_l20Dance.l0] at H
   by_cases c6 : x8_1 > 0
   ·rw [if_pos c6] at H
    have c6b0 : decide (0 < x8_1) = true := decide_eq_true c6
    clear c6
    obtain ⟨y383, hy383⟩ : ∃ y_ : List ByteArray, y_ = (([(⟨#[84]⟩ : ByteArray), (⟨#[84]⟩ : ByteArray), (⟨#[82]⟩ : ByteArray), (⟨#[116]⟩ : ByteArray), (⟨#[82]⟩ : ByteArray), (⟨#[84]⟩ : ByteArray)] : List ByteArray)) := ⟨_, rfl⟩
    replace H : ((spec_l20Rd_pick.f k1 s0_0 x1001_1 6).bind fun bt386 => (if 0 ≤ bt386.1 then (if bt386.1 < (y383.length : Int) then (if x7_1.size + (rdOf ByteArray.empty y383 bt386.1).size ≤ 9223372036854775807 then (spec_l20Dance.l0 k1 a2 (x7_1 ++ (rdOf ByteArray.empty y383 bt386.1)) (wrap64 (x8_1 - 1)) s0_0 bt386.2) else (none)) else (none)) else (none))) = some (r1, r2) := sqW hy383 H
    have Ny383 := Aside0.mk hy383
    clear hy383
    obtain ⟨⟨t386, t387⟩, A7, H⟩ := sqD H
    try dsimp only at H
    obtain ⟨c8, H⟩ := sqI H
    have c8b0 : decide (0 ≤ t386) = true := decide_eq_true c8
    clear c8
    obtain ⟨c9, H⟩ := sqI H
    have c9b0 : decide (t386 < (y383.length : Int)) = true := decide_eq_true c9
    clear c9
    obtain ⟨c10, H⟩ := sqI H
    have c10b0 := eq_true c10
    have c10b1 : decide (x7_1.size + (rdOf ByteArray.empty y383 t386).size ≤ 9223372036854775807) = true := decide_eq_true c10
    try have c10b2 : (9223372036854775807 < x7_1.size + (rdOf ByteArray.empty y383 t386).size) = False := eq_false (Nat.not_lt.2 c10)
    have H' := Aside0.mk H
    clear H
    go_wp2_with (first | ((with_reducible refine gate_dst (N := 18) rfl ?_); refine Kd.R_lit Kd.string _ 9 ?hg (N := 18) ?hd (xs := ([(⟨#[84]⟩ : ByteArray), (⟨#[84]⟩ : ByteArray), (⟨#[82]⟩ : ByteArray), (⟨#[116]⟩ : ByteArray), (⟨#[82]⟩ : ByteArray), (⟨#[84]⟩ : ByteArray)] : List ByteArray)) (inner := [.string (⟨#[84]⟩ : ByteArray), .string (⟨#[84]⟩ : ByteArray), .string (⟨#[82]⟩ : ByteArray), .string (⟨#[116]⟩ : ByteArray), .string (⟨#[82]⟩ : ByteArray), .string (⟨#[84]⟩ : ByteArray)]) (ok := fun _ => True) (okp := fun _ => True) ?hr ?hp (fun _ hk => hk) trivial (Below.refl _ _) (Nat.le_refl _) (by simp) ?_; (case hd => rfl); (case hg => rfl); (case hr => exact Z7); (case hp => exact (Reps.one (show Kd.M Kd.string _ _ _ (⟨#[84]⟩ : ByteArray) [.string (⟨#[84]⟩ : ByteArray)] from rfl) (Reps.one (show Kd.M Kd.string _ _ _ (⟨#[84]⟩ : ByteArray) [.string (⟨#[84]⟩ : ByteArray)] from rfl) (Reps.one (show Kd.M Kd.string _ _ _ (⟨#[82]⟩ : ByteArray) [.string (⟨#[82]⟩ : ByteArray)] from rfl) (Reps.one (show Kd.M Kd.string _ _ _ (⟨#[116]⟩ : ByteArray) [.string (⟨#[116]⟩ : ByteArray)] from rfl) (Reps.one (show Kd.M Kd.string _ _ _ (⟨#[82]⟩ : ByteArray) [.string (⟨#[82]⟩ : ByteArray)] from rfl) (Reps.one (show Kd.M Kd.string _ _ _ (⟨#[84]⟩ : ByteArray) [.string (⟨#[84]⟩ : ByteArray)] from rfl) (Reps.none _ _)))))))); intro v384 w11 ho12 hb hg_ hnew_; clear hg_ hnew_; (first | rw [← Ny383.out] at ho12 | (simp only [Int.reduceToNat] at ho12; rw [← Ny383.out] at ho12)); have HO385 := Aside0.mk (Kd.R_lower ho12 (keep_size (w := w) (g := g) (row := none) Z35)); replace HK := Aside0.mk (KeepBut.trans Z35 (KeepBut.of_below hb g none) (.inl rfl)); replace HB := Aside0.mk (below_step (Z36 HI0) hb); replace HI0 := Aside0.mk (IsS131.below (Z34 HI0) hb); clear hb ho12) | ((with_reducible refine gate_callee (f := 82) rfl ?_); refine goesL_ (some 20) rfl rfl Tryz.func82 (by kernel_rfl) rfl #[.pointer (some ⟨g, 0, none⟩), .int .i64 6] rfl sqA ?_; (with_reducible refine (spec_l20Rd_pick.calls k1 g s0_0 x1001_1 6 t386 t387 w0 _ ?side1 ?side2 A7.out).mono ?_); (case side1 => exact Z34 HI0); (case side2 => exact Z36 HI0); rintro e w13 ⟨rfl, hi, hb, hk⟩; refine ⟨_, rfl, ?_⟩; replace HO385 := Aside0.mk (Kd.R_mono (Kd.R_keep (IsS131.apart (show IsS131 w0 _ g s0_0 x1001_1 from by repeat (first | (with_reducible first | exact HI0.out | apply IsS131.alloc | apply IsS131.drewN | apply IsS131.drew | apply IsS131.set_1) | exact HI0.out)) (sqR HO385) (by decide)) hk (fun _ h => h.2)) (fun _ h => h.1)); replace HK := Aside0.mk (KeepBut.trans Z35 hk (.inl rfl)); replace HB := Aside0.mk (hb); replace HI0 := Aside0.mk (hi); (try clear hb); obtain ⟨Ao14, co14, eo14⟩ := Kd.R_slice HO385.out; subst eo14; have p388 : 0 ≤ (t386 : Int) := of_decide_eq_true Z2; have q388 : t386 < (y383.length : Int) := of_decide_eq_true Z2; obtain ⟨ad388, e388, hx388_0⟩ := Kd.at_string (Kd.R_reads' HO385.out).2.2 t386 p388 q388; cases e388; replace p388 := eq_true p388; replace q388 := eq_true q388))
    go_roundg k1
    case measure => have := HK1.out; omega
    case rel => exact ⟨(x7_1 ++ (rdOf ByteArray.empty y383 t386)), (wrap64 (x8_1 - 1)), (t387), Z1, Z1, H', ⟨Z4 HK1⟩, ⟨Z34 HI0⟩, ⟨Z35⟩, ⟨Z36 HI0⟩⟩
   ·rw [if_neg c6] at H
    have c6b0 : decide (0 < x8_1) = false := decide_eq_false c6
    clear c6
    obtain ⟨⟨t389, t390⟩, A15, H⟩ := sqD H
    try dsimp only at H
    by_cases c16 : t389 = true
    ·subst c16
     rw [if_pos rfl] at H
     obtain ⟨y391, hy391⟩ : ∃ y_ : List ByteArray, y_ = (([(⟨#[120]⟩ : ByteArray), (⟨#[114]⟩ : ByteArray), (⟨#[84, 84, 84, 84, 84, 84, 84, 84, 84, 84, 84, 84, 84, 84, 84, 84, 84, 84, 84, 84, 84, 84, 84, 84, 84, 84, 84, 84, 84, 84, 84, 84, 84, 84, 84, 84, 84, 84, 84, 84, 84]⟩ : ByteArray)] : List ByteArray)) := ⟨_, rfl⟩
     replace H : ((spec_l20Rd_pick.f k1 s0_0 t390 3).bind fun bt394 => (if 0 ≤ bt394.1 then (if bt394.1 < (y391.length : Int) then (if x7_1.size + (rdOf ByteArray.empty y391 bt394.1).size ≤ 9223372036854775807 then (some (x7_1 ++ (rdOf ByteArray.empty y391 bt394.1), bt394.2)) else (none)) else (none)) else (none))) = some (r1, r2) := sqW hy391 H
     have Ny391 := Aside0.mk hy391
     clear hy391
     obtain ⟨⟨t394, t395⟩, A17, H⟩ := sqD H
     try dsimp only at H
     obtain ⟨c18, H⟩ := sqI H
     have c18b0 : decide (0 ≤ t394) = true := decide_eq_true c18
     clear c18
     obtain ⟨c19, H⟩ := sqI H
     have c19b0 : decide (t394 < (y391.length : Int)) = true := decide_eq_true c19
     clear c19
     obtain ⟨c20, H⟩ := sqI H
     have c20b0 := eq_true c20
     have c20b1 : decide (x7_1.size + (rdOf ByteArray.empty y391 t394).size ≤ 9223372036854775807) = true := decide_eq_true c20
     try have c20b2 : (9223372036854775807 < x7_1.size + (rdOf ByteArray.empty y391 t394).size) = False := eq_false (Nat.not_lt.2 c20)
     obtain ⟨rfl, rfl⟩ := sqO2 H
     go_wp2_with (first | ((with_reducible refine gate_callee (f := 74) rfl ?_); refine goesL_ (some 26) rfl rfl Tryz.func74 (by kernel_rfl) rfl #[.pointer (some ⟨g, 0, none⟩), .int .i64 a2] rfl sqA ?_; (with_reducible refine (spec_l20Rd_odd.calls k1 g s0_0 x1001_1 a2 true t390 w0 _ ?side1 ?side2 A15.out).mono ?_); (case side1 => exact Z34 HI0); (case side2 => exact Z36 HI0); rintro e w21 ⟨rfl, hi, hb, hk⟩; refine ⟨_, rfl, ?_⟩; replace HK := Aside0.mk (KeepBut.trans Z35 hk (.inl rfl)); replace HB := Aside0.mk (hb); replace HI0 := Aside0.mk (hi); (try clear hb)) | ((with_reducible refine gate_dst (N := 28) rfl ?_); refine Kd.R_lit Kd.string _ 9 ?hg (N := 28) ?hd (xs := ([(⟨#[120]⟩ : ByteArray), (⟨#[114]⟩ : ByteArray), (⟨#[84, 84, 84, 84, 84, 84, 84, 84, 84, 84, 84, 84, 84, 84, 84, 84, 84, 84, 84, 84, 84, 84, 84, 84, 84, 84, 84, 84, 84, 84, 84, 84, 84, 84, 84, 84, 84, 84, 84, 84, 84]⟩ : ByteArray)] : List ByteArray)) (inner := [.string (⟨#[120]⟩ : ByteArray), .string (⟨#[114]⟩ : ByteArray), .string (⟨#[84, 84, 84, 84, 84, 84, 84, 84, 84, 84, 84, 84, 84, 84, 84, 84, 84, 84, 84, 84, 84, 84, 84, 84, 84, 84, 84, 84, 84, 84, 84, 84, 84, 84, 84, 84, 84, 84, 84, 84, 84]⟩ : ByteArray)]) (ok := fun _ => True) (okp := fun _ => True) ?hr ?hp (fun _ hk => hk) trivial (Below.refl _ _) (Nat.le_refl _) (by simp) ?_; (case hd => rfl); (case hg => rfl); (case hr => exact Z7); (case hp => exact (Reps.one (show Kd.M Kd.string _ _ _ (⟨#[120]⟩ : ByteArray) [.string (⟨#[120]⟩ : ByteArray)] from rfl) (Reps.one (show Kd.M Kd.string _ _ _ (⟨#[114]⟩ : ByteArray) [.string (⟨#[114]⟩ : ByteArray)] from rfl) (Reps.one (show Kd.M Kd.string _ _ _ (⟨#[84, 84, 84, 84, 84, 84, 84, 84, 84, 84, 84, 84, 84, 84, 84, 84, 84, 84, 84, 84, 84, 84, 84, 84, 84, 84, 84, 84, 84, 84, 84, 84, 84, 84, 84, 84, 84, 84, 84, 84, 84]⟩ : ByteArray) [.string (⟨#[84, 84, 84, 84, 84, 84, 84, 84, 84, 84, 84, 84, 84, 84, 84, 84, 84, 84, 84, 84, 84, 84, 84, 84, 84, 84, 84, 84, 84, 84, 84, 84, 84, 84, 84, 84, 84, 84, 84, 84, 84]⟩ : ByteArray)] from rfl) (Reps.none _ _))))); intro v392 w22 ho23 hb hg_ hnew_; clear hg_ hnew_; (first | rw [← Ny391.out] at ho23 | (simp only [Int.reduceToNat] at ho23; rw [← Ny391.out] at ho23)); have HO393 := Aside0.mk (Kd.R_lower ho23 (keep_size (w := w) (g := g) (row := none) Z35)); replace HK := Aside0.mk (KeepBut.trans Z35 (KeepBut.of_below hb g none) (.inl rfl)); replace HB := Aside0.mk (below_step (Z36 HI0) hb); replace HI0 := Aside0.mk (IsS131.below (Z34 HI0) hb); clear hb ho23) | ((with_reducible refine gate_callee (f := 82) rfl ?_); refine goesL_ (some 30) rfl rfl Tryz.func82 (by kernel_rfl) rfl #[.pointer (some ⟨g, 0, none⟩), .int .i64 3] rfl sqA ?_; (with_reducible refine (spec_l20Rd_pick.calls k1 g s0_0 t390 3 t394 t395 w0 _ ?side1 ?side2 A17.out).mono ?_); (case side1 => exact Z34 HI0); (case side2 => exact Z36 HI0); rintro e w24 ⟨rfl, hi, hb, hk⟩; refine ⟨_, rfl, ?_⟩; replace HO393 := Aside0.mk (Kd.R_mono (Kd.R_keep (IsS131.apart (show IsS131 w0 _ g s0_0 t390 from by repeat (first | (with_reducible first | exact HI0.out | apply IsS131.alloc | apply IsS131.drewN | apply IsS131.drew | apply IsS131.set_1) | exact HI0.out)) (sqR HO393) (by decide)) hk (fun _ h => h.2)) (fun _ h => h.1)); replace HK := Aside0.mk (KeepBut.trans Z35 hk (.inl rfl)); replace HB := Aside0.mk (hb); replace HI0 := Aside0.mk (hi); (try clear hb); obtain ⟨Ao25, co25, eo25⟩ := Kd.R_slice HO393.out; subst eo25; have p396 : 0 ≤ (t394 : Int) := of_decide_eq_true Z2; have q396 : t394 < (y391.length : Int) := of_decide_eq_true Z2; obtain ⟨ad396, e396, hx396_0⟩ := Kd.at_string (Kd.R_reads' HO393.out).2.2 t394 p396 q396; cases e396; replace p396 := eq_true p396; replace q396 := eq_true q396))
     go_ret
     exact ⟨Z3, Z34 HI0, Z36 HI0, Z35⟩
    ·replace c16 := Bool.eq_false_iff.mpr c16
     subst c16
     rw [if_neg sqF] at H
     obtain ⟨rfl, rfl⟩ := sqO2 H
     go_wp2_with (first | ((with_reducible refine gate_callee (f := 74) rfl ?_); refine goesL_ (some 26) rfl rfl Tryz.func74 (by kernel_rfl) rfl #[.pointer (some ⟨g, 0, none⟩), .int .i64 a2] rfl sqA ?_; (with_reducible refine (spec_l20Rd_odd.calls k1 g s0_0 x1001_1 a2 false t390 w0 _ ?side1 ?side2 A15.out).mono ?_); (case side1 => exact Z34 HI0); (case side2 => exact Z36 HI0); rintro e w26 ⟨rfl, hi, hb, hk⟩; refine ⟨_, rfl, ?_⟩; replace HK := Aside0.mk (KeepBut.trans Z35 hk (.inl rfl)); replace HB := Aside0.mk (hb); replace HI0 := Aside0.mk (hi); (try clear hb)))
     go_ret
     exact ⟨Z3, Z34 HI0, Z36 HI0, Z35⟩

/-! ### spec_l20Fraction: function 113 -/
def spec_l20Fraction.j0 : Nat → Int → List Int → Int → Int → Int → Option (Int × Int × Int)
 | 0, _, _, _, _, _ => none
 | k + 1, x1, x1000, x1001, x414000, x414001 => (spec_l20Rd_odd.f k x1000 x1001 x1).bind fun bt414 => (if bt414.1 = true then ((some (([(⟨0, 0⟩ : S31), (⟨2, 4⟩ : S31), (⟨1, (-2)⟩ : S31), (⟨(-1), 0⟩ : S31), (⟨1000001, 1⟩ : S31)] : List (S31)) : List (S31))).bind fun y416 => ((spec_l20Rd_pick.f k x1000 bt414.2 5).bind fun bt419 => (if 0 ≤ bt419.1 then (if bt419.1 < (y416.length : Int) then (some ((rd_T31 y416 bt419.1).f0, (rd_T31 y416 bt419.1).f1, bt419.2)) else (none)) else (none)))) else (some (x414000, x414001, bt414.2)))
def spec_l20Fraction.f (k : Nat) (s0_0 : List Int) (s0_1 : Int) (a1 : Int) : Option (Int × Int × Int) := (some (([4, 10, 50, 1000] : List Int) : List Int)).bind fun y398 => ((spec_l20Rd_pick.f k s0_0 s0_1 4).bind fun bt401 => (if 0 ≤ bt401.1 then (if bt401.1 < (y398.length : Int) then ((spec_l20Rd_pick.f k s0_0 bt401.2 (rd y398 bt401.1)).bind fun bt404 => ((spec_l20Rd_pick.f k s0_0 bt404.2 (rd y398 bt401.1)).bind fun bt406 => ((spec_l20Rd_pick.f k s0_0 bt406.2 (rd y398 bt401.1)).bind fun bt408 => ((spec_LowestOf.f k (wrap64 (bt404.1 - bt406.1)) bt408.1).bind fun bt410 => (if bt410.2.2 = true then (spec_l20Fraction.j0 k a1 s0_0 bt408.2 bt410.1 bt410.2.1) else (spec_l20Fraction.j0 k a1 s0_0 bt408.2 1 0)))))) else (none)) else (none)))
theorem spec_l20Fraction.mono_l : ∀ k, (∀ y0 y1 y2 y3 y4, LeO (spec_l20Fraction.j0 k y0 y1 y2 y3 y4) (spec_l20Fraction.j0 (k + 1) y0 y1 y2 y3 y4))
 | 0 => fun _ _ _ _ _ r h => by simp [spec_l20Fraction.j0] at h
 | k + 1 => by
  have ih0 := spec_l20Fraction.mono_l k
  ·intro y0 y1 y2 y3 y4
   unfold spec_l20Fraction.j0
   repeat' first
   | (with_reducible exact ih0 _ _ _ _ _)
   | (with_reducible exact spec_LowestOf.mono _ _ _)
   | (with_reducible exact spec_l20Rd_odd.mono _ _ _ _)
   | (with_reducible exact spec_l20Rd_pick.mono _ _ _ _)
   | (with_reducible exact LeO.refl _)
   | (with_reducible exact LeO.none _)
   | (with_reducible refine LeO.ite ?_ ?_)
   | (with_reducible refine LeO.bind ?_ (fun _ => ?_))
theorem spec_l20Fraction.mono : ∀ a0 a1 a2 k, LeO (spec_l20Fraction.f k a0 a1 a2) (spec_l20Fraction.f (k + 1) a0 a1 a2) := by
 intro a0 a1 a2 k
 have ih0 := spec_l20Fraction.mono_l k
 unfold spec_l20Fraction.f
 repeat' first
   | (with_reducible exact ih0 _ _ _ _ _)
   | (with_reducible exact spec_LowestOf.mono _ _ _)
   | (with_reducible exact spec_l20Rd_odd.mono _ _ _ _)
   | (with_reducible exact spec_l20Rd_pick.mono _ _ _ _)
   | (with_reducible exact LeO.refl _)
   | (with_reducible exact LeO.none _)
   | (with_reducible refine LeO.ite ?_ ?_)
   | (with_reducible refine LeO.bind ?_ (fun _ => ?_))
set_option maxHeartbeats 8000000 in
set_option maxRecDepth 100000 in
theorem spec_l20Fraction.calls (k : Nat) (g : Nat) (s0_0 : List Int) (s0_1 : Int) (a1 : Int) (r1 : Int) (r2 : Int) (r3 : Int) (w0 w : World) (hI : IsS131 w0 w g s0_0 s0_1) (hB : Below w0.heap.size w0 w) (h : spec_l20Fraction.f k s0_0 s0_1 a1 = some (r1, r2, r3)) :
  Calls Tryz.prog 113 #[.pointer (some ⟨g, 0, none⟩), .int .i64 a1] w fun e w' => e = .returned (.agg #[.int .i64 r1, .int .i64 r2]) ∧ IsS131 w0 w' g s0_0 r3 ∧ Below w0.heap.size w0 w' ∧ KeepBut w w' g none := by
 have hu31 := Tryz.underlying31
 have HI0 := Aside0.mk hI
 have HK := Aside0.mk (KeepBut.refl w g none)
 have HL := Aside0.mk hB.size
 clear hI
 have HW0 := Aside0.mk hB.size
 have HB := Aside0.mk hB
 clear hB
 have H : ((some (([4, 10, 50, 1000] : List Int) : List Int)).bind fun y398 => ((spec_l20Rd_pick.f k s0_0 s0_1 4).bind fun bt401 => (if 0 ≤ bt401.1 then (if bt401.1 < (y398.length : Int) then ((spec_l20Rd_pick.f k s0_0 bt401.2 (rd y398 bt401.1)).bind fun bt404 => ((spec_l20Rd_pick.f k s0_0 bt404.2 (rd y398 bt401.1)).bind fun bt406 => ((spec_l20Rd_pick.f k s0_0 bt406.2 (rd y398 bt401.1)).bind fun bt408 => ((spec_LowestOf.f k (wrap64 (bt404.1 - bt406.1)) bt408.1).bind fun bt410 => (if bt410.2.2 = true then (spec_l20Fraction.j0 k a1 s0_0 bt408.2 bt410.1 bt410.2.1) else (spec_l20Fraction.j0 k a1 s0_0 bt408.2 1 0)))))) else (none)) else (none)))) = some (r1, r2, r3) := h
 clear h
 obtain ⟨y398, hy398⟩ : ∃ y_ : List Int, y_ = (([4, 10, 50, 1000] : List Int)) := ⟨_, rfl⟩
 replace H : ((spec_l20Rd_pick.f k s0_0 s0_1 4).bind fun bt401 => (if 0 ≤ bt401.1 then (if bt401.1 < (y398.length : Int) then ((spec_l20Rd_pick.f k s0_0 bt401.2 (rd y398 bt401.1)).bind fun bt404 => ((spec_l20Rd_pick.f k s0_0 bt404.2 (rd y398 bt401.1)).bind fun bt406 => ((spec_l20Rd_pick.f k s0_0 bt406.2 (rd y398 bt401.1)).bind fun bt408 => ((spec_LowestOf.f k (wrap64 (bt404.1 - bt406.1)) bt408.1).bind fun bt410 => (if bt410.2.2 = true then (spec_l20Fraction.j0 k a1 s0_0 bt408.2 bt410.1 bt410.2.1) else (spec_l20Fraction.j0 k a1 s0_0 bt408.2 1 0)))))) else (none)) else (none))) = some (r1, r2, r3) := sqW hy398 H
 have Ny398 := Aside0.mk hy398
 clear hy398
 obtain ⟨⟨t401, t402⟩, A3, H⟩ := sqD H
 try dsimp only at H
 obtain ⟨c4, H⟩ := sqI H
 have c4b0 : decide (0 ≤ t401) = true := decide_eq_true c4
 clear c4
 obtain ⟨c5, H⟩ := sqI H
 have c5b0 : decide (t401 < (y398.length : Int)) = true := decide_eq_true c5
 clear c5
 obtain ⟨⟨t404, t405⟩, A6, H⟩ := sqD H
 try dsimp only at H
 obtain ⟨⟨t406, t407⟩, A7, H⟩ := sqD H
 try dsimp only at H
 obtain ⟨⟨t408, t409⟩, A8, H⟩ := sqD H
 try dsimp only at H
 obtain ⟨⟨t410, t411, t412⟩, A9, H⟩ := sqD H
 try dsimp only at H
 have HC10 := Aside0.mk H
 clear H
 go_enter Tryz.func113, Tryz.ntmps113
 go_upto_if 28 with (first | ((with_reducible refine gate_dst (N := 4) rfl ?_); refine sqBox (N := 4) (cs := #[.int .i64 0, .int .i64 0]) (t := 31) ?_; intro gb397 hg w11 BK397 hb; replace HB := Aside0.mk (below_step (Z36 HI0) hb); have GW397 := Aside0.mk ((Z110 : w.heap.size ≤ gb397)); have GE397 := Aside0.mk ((Nat.le_trans HW0.out (Z110 : w.heap.size ≤ gb397) : w0.heap.size ≤ gb397)); replace HK := Aside0.mk (KeepBut.trans Z35 (KeepBut.of_below hb g none) (.inl rfl)); have NB0_397 := Aside0.mk ((Z37 HI0 : g ≠ gb397)); have NB397_0 := Aside0.mk ((Z38 HI0 : gb397 ≠ g)); replace HI0 := Aside0.mk (IsS131.below (Z34 HI0) hb); clear hb hg) | ((with_reducible refine gate_dst (N := 8) rfl ?_); refine Kd.R_lit (Kd.int .i64) _ 3 ?hg (N := 8) ?hd (xs := ([4, 10, 50, 1000] : List Int)) (inner := [.int .i64 4, .int .i64 10, .int .i64 50, .int .i64 1000]) (ok := fun _ => True) (okp := fun _ => True) ?hr ?hp (fun _ hk => hk) trivial (Below.refl _ _) (Nat.le_refl _) (by simp) ?_; (case hd => rfl); (case hg => rfl); (case hr => exact Z7); (case hp => exact (Reps.one (show Kd.M (Kd.int .i64) _ _ _ 4 [.int .i64 4] from rfl) (Reps.one (show Kd.M (Kd.int .i64) _ _ _ 10 [.int .i64 10] from rfl) (Reps.one (show Kd.M (Kd.int .i64) _ _ _ 50 [.int .i64 50] from rfl) (Reps.one (show Kd.M (Kd.int .i64) _ _ _ 1000 [.int .i64 1000] from rfl) (Reps.none _ _)))))); intro v399 w12 ho13 hb hg_ hnew_; clear hg_ hnew_; (first | rw [← Ny398.out] at ho13 | (simp only [Int.reduceToNat] at ho13; rw [← Ny398.out] at ho13)); have HO400 := Aside0.mk (Kd.R_lower ho13 (keep_size (w := w) (g := g) (row := none) (Z39 GW397))); replace BK397 := sqT BK397 hb; replace HK := Aside0.mk (KeepBut.trans (Z39 GW397) (KeepBut.of_below hb g none) (.inl rfl)); replace HB := Aside0.mk (below_step (Z40 HI0 GE397) hb); replace HI0 := Aside0.mk (IsS131.below (Z41 HI0 NB0_397) hb); clear hb ho13) | ((with_reducible refine gate_callee (f := 82) rfl ?_); refine goesL_ (some 10) rfl rfl Tryz.func82 (by kernel_rfl) rfl #[.pointer (some ⟨g, 0, none⟩), .int .i64 4] rfl sqA ?_; (with_reducible refine (spec_l20Rd_pick.calls k g s0_0 s0_1 4 t401 t402 w0 _ ?side1 ?side2 A3.out).mono ?_); (case side1 => exact Z41 HI0 NB0_397); (case side2 => exact Z40 HI0 GE397); rintro e w14 ⟨rfl, hi, hb, hk⟩; refine ⟨_, rfl, ?_⟩; replace BK397 := Aside0.mk (KeepBut.blk hk (g' := gb397) (o := .cells #[.int .i64 0, .int .i64 0] 31 (0, 0)) (sqK BK397) NB397_0.out (by simp)); replace HO400 := Aside0.mk (Kd.R_mono (Kd.R_keep (IsS131.apart (show IsS131 w0 _ g s0_0 s0_1 from by repeat (first | (with_reducible first | exact HI0.out | apply IsS131.alloc | apply IsS131.drewN | apply IsS131.drew | apply IsS131.set_1 | refine IsS131.far ?_ NB0_397.out _) | exact HI0.out)) (sqR HO400) (by decide)) hk (fun _ h => h.2)) (fun _ h => h.1)); replace HK := Aside0.mk (KeepBut.trans (Z39 GW397) hk (.inl rfl)); replace HB := Aside0.mk (hb); replace HI0 := Aside0.mk (hi); (try clear hb); obtain ⟨Ao15, co15, eo15⟩ := Kd.R_slice HO400.out; subst eo15; have p403 : 0 ≤ (t401 : Int) := of_decide_eq_true Z2; have q403 : t401 < (y398.length : Int) := of_decide_eq_true Z2; obtain ⟨ad403, e403, hx403_0⟩ := Kd.at_int (Kd.R_reads' HO400.out).2.2 t401 p403 q403; cases e403; replace p403 := eq_true p403; replace q403 := eq_true q403) | ((with_reducible refine gate_callee (f := 82) rfl ?_); refine goesL_ (some 16) rfl rfl Tryz.func82 (by kernel_rfl) rfl #[.pointer (some ⟨g, 0, none⟩), .int .i64 (rd y398 t401)] rfl sqA ?_; (with_reducible refine (spec_l20Rd_pick.calls k g s0_0 t402 (rd y398 t401) t404 t405 w0 _ ?side1 ?side2 A6.out).mono ?_); (case side1 => exact Z41 HI0 NB0_397); (case side2 => exact Z40 HI0 GE397); rintro e w16 ⟨rfl, hi, hb, hk⟩; refine ⟨_, rfl, ?_⟩; replace BK397 := Aside0.mk (KeepBut.blk hk (g' := gb397) (o := .cells #[.int .i64 0, .int .i64 0] 31 (0, 0)) (sqK BK397) NB397_0.out (by simp)); replace HO400 := Aside0.mk (Kd.R_mono (Kd.R_keep (IsS131.apart (show IsS131 w0 _ g s0_0 t402 from by repeat (first | (with_reducible first | exact HI0.out | apply IsS131.alloc | apply IsS131.drewN | apply IsS131.drew | apply IsS131.set_1 | refine IsS131.far ?_ NB0_397.out _) | exact HI0.out)) (sqR HO400) (by decide)) hk (fun _ h => h.2)) (fun _ h => h.1)); replace HK := Aside0.mk (KeepBut.trans (Z39 GW397) hk (.inl rfl)); replace HB := Aside0.mk (hb); replace HI0 := Aside0.mk (hi); (try clear hb)) | ((with_reducible refine gate_callee (f := 82) rfl ?_); refine goesL_ (some 19) rfl rfl Tryz.func82 (by kernel_rfl) rfl #[.pointer (some ⟨g, 0, none⟩), .int .i64 (rd y398 t401)] rfl sqA ?_; (with_reducible refine (spec_l20Rd_pick.calls k g s0_0 t405 (rd y398 t401) t406 t407 w0 _ ?side1 ?side2 A7.out).mono ?_); (case side1 => exact Z41 HI0 NB0_397); (case side2 => exact Z40 HI0 GE397); rintro e w17 ⟨rfl, hi, hb, hk⟩; refine ⟨_, rfl, ?_⟩; replace BK397 := Aside0.mk (KeepBut.blk hk (g' := gb397) (o := .cells #[.int .i64 0, .int .i64 0] 31 (0, 0)) (sqK BK397) NB397_0.out (by simp)); replace HO400 := Aside0.mk (Kd.R_mono (Kd.R_keep (IsS131.apart (show IsS131 w0 _ g s0_0 t405 from by repeat (first | (with_reducible first | exact HI0.out | apply IsS131.alloc | apply IsS131.drewN | apply IsS131.drew | apply IsS131.set_1 | refine IsS131.far ?_ NB0_397.out _) | exact HI0.out)) (sqR HO400) (by decide)) hk (fun _ h => h.2)) (fun _ h => h.1)); replace HK := Aside0.mk (KeepBut.trans (Z39 GW397) hk (.inl rfl)); replace HB := Aside0.mk (hb); replace HI0 := Aside0.mk (hi); (try clear hb)) | ((with_reducible refine gate_callee (f := 82) rfl ?_); refine goesL_ (some 23) rfl rfl Tryz.func82 (by kernel_rfl) rfl #[.pointer (some ⟨g, 0, none⟩), .int .i64 (rd y398 t401)] rfl sqA ?_; (with_reducible refine (spec_l20Rd_pick.calls k g s0_0 t407 (rd y398 t401) t408 t409 w0 _ ?side1 ?side2 A8.out).mono ?_); (case side1 => exact Z41 HI0 NB0_397); (case side2 => exact Z40 HI0 GE397); rintro e w18 ⟨rfl, hi, hb, hk⟩; refine ⟨_, rfl, ?_⟩; replace BK397 := Aside0.mk (KeepBut.blk hk (g' := gb397) (o := .cells #[.int .i64 0, .int .i64 0] 31 (0, 0)) (sqK BK397) NB397_0.out (by simp)); replace HO400 := Aside0.mk (Kd.R_mono (Kd.R_keep (IsS131.apart (show IsS131 w0 _ g s0_0 t407 from by repeat (first | (with_reducible first | exact HI0.out | apply IsS131.alloc | apply IsS131.drewN | apply IsS131.drew | apply IsS131.set_1 | refine IsS131.far ?_ NB0_397.out _) | exact HI0.out)) (sqR HO400) (by decide)) hk (fun _ h => h.2)) (fun _ h => h.1)); replace HK := Aside0.mk (KeepBut.trans (Z39 GW397) hk (.inl rfl)); replace HB := Aside0.mk (hb); replace HI0 := Aside0.mk (hi); (try clear hb)) | ((with_reducible refine gate_callee (f := 136) rfl ?_); refine goesL_ (some 24) rfl rfl Tryz.func136 (by kernel_rfl) rfl #[.int .i64 (wrap64 (t404 - t406)), .int .i64 t408] rfl sqA ?_; (with_reducible refine (spec_LowestOf.calls k (wrap64 (t404 - t406)) t408 t410 t411 t412 _ A9.out).mono ?_); rintro e w19 ⟨rfl, hb⟩; refine ⟨_, rfl, ?_⟩; replace HO400 := sqU HO400 hb; replace BK397 := sqT BK397 hb; replace HK := Aside0.mk (KeepBut.trans (Z39 GW397) (KeepBut.of_below hb g none) (.inl rfl)); replace HB := Aside0.mk (below_step (Z40 HI0 GE397) hb); replace HI0 := Aside0.mk (IsS131.below (Z41 HI0 NB0_397) hb); (try clear hb)) | ((with_reducible refine gate_dst (N := 6) rfl ?_); refine sqBox (N := 6) (cs := #[.int .i64 0, .int .i64 0]) (t := 31) ?_; intro gb413 hg w20 BK413 hb; replace HO400 := sqU HO400 hb; replace HB := Aside0.mk (below_step (Z40 HI0 GE397) hb); have GW413 := Aside0.mk ((Z111 GW397 : w.heap.size ≤ gb413)); have GE413 := Aside0.mk ((Nat.le_trans HW0.out (Z111 GW397 : w.heap.size ≤ gb413) : w0.heap.size ≤ gb413)); replace HK := Aside0.mk (KeepBut.trans (Z39 GW397) (KeepBut.of_below hb g none) (.inl rfl)); obtain ⟨NB397_413, NB413_397⟩ := sqM hg BK397; replace BK397 := sqT BK397 hb; have NB0_413 := Aside0.mk ((by rw [hg]; exact Nat.ne_of_lt (IsS131.lt (show IsS131 w0 _ g s0_0 t409 from by repeat (first | (with_reducible first | exact HI0.out | apply IsS131.alloc | apply IsS131.drewN | apply IsS131.drew | apply IsS131.set_1 | refine IsS131.far ?_ NB0_397.out _) | exact HI0.out))) : g ≠ gb413)); have NB413_0 := Aside0.mk ((by rw [hg]; exact Nat.ne_of_gt (IsS131.lt (show IsS131 w0 _ g s0_0 t409 from by repeat (first | (with_reducible first | exact HI0.out | apply IsS131.alloc | apply IsS131.drewN | apply IsS131.drew | apply IsS131.set_1 | refine IsS131.far ?_ NB0_397.out _) | exact HI0.out))) : gb413 ≠ g)); replace HI0 := Aside0.mk (IsS131.below (Z41 HI0 NB0_397) hb); clear hb hg; have hnb21 := NB413_397.out; have hnc21 := NB397_413.out; have hnb22 := NB413_0.out; have hnc22 := NB0_413.out; obtain ⟨hcz23_0, hcz23_1, hfz23_0, hfz23_1⟩ := sqY2 BK413))
 (try simp only [Act.put, List.setIfInBounds_toArray, List.set_cons_zero, List.set_cons_succ])
 go_cut [] (fun wc => ∃ (kq : Nat) (x414000_9 : Int) (x414001_9 : Int), Aside0 (spec_l20Fraction.j0 kq a1 s0_0 t409 x414000_9 x414001_9 = some (r1, r2, r3)) ∧ Aside0 (kq ≤ k) ∧ Aside0 (wc.heap[gb397]? = some (.cells #[.int .i64 0, .int .i64 0] 31 (0, 0))) ∧ Aside0 (wc.heap[gb413]? = some (.cells #[.int .i64 x414000_9, .int .i64 x414001_9] 31 (0, 0))) ∧ Aside0 (IsS131 w0 wc g s0_0 t409) ∧ Aside0 (KeepBut w wc g none) ∧ Aside0 (Below w0.heap.size w0 wc))
 case first =>
  have H := HC10.out
  clear HC10
  by_cases c24 : t412 = true
  ·subst c24
   rw [if_pos rfl] at H
   have H' := Aside0.mk H
   clear H
   go_wp2
   go_meet
   case rel => exact ⟨_, (t410), (t411), H', ⟨Z16⟩, ⟨Z14 NB397_413 BK397⟩, ⟨by refine sqPut (cs := #[.int .i64 t410, .int .i64 0]) ?_ 1; refine sqPut (cs := #[.int .i64 0, .int .i64 0]) ?_ 0; exact sqK BK413⟩, ⟨Z42 HI0 NB0_397 NB0_413⟩, ⟨Z43 GW397 GW413⟩, ⟨Z44 HI0 GE397 GE413⟩⟩
  ·replace c24 := Bool.eq_false_iff.mpr c24
   subst c24
   rw [if_neg sqF] at H
   have H' := Aside0.mk H
   clear H
   have hnb25 := NB413_397.out
   have hnc25 := NB397_413.out
   have hnb26 := NB413_0.out
   have hnc26 := NB0_413.out
   obtain ⟨hcz27_0, hcz27_1, hfz27_0, hfz27_1⟩ := sqY2 BK413
   go_wp2
   go_meet
   case rel => exact ⟨_, (1), (0), H', ⟨Z16⟩, ⟨by refine sqFar ?_ NB397_413; refine sqFar ?_ NB397_413; refine sqFar ?_ NB397_413; refine sqFar ?_ NB397_413; exact sqK BK397⟩, ⟨by refine sqPut (cs := #[.int .i64 1, .int .i64 t411]) ?_ 1; refine sqPut (cs := #[.int .i64 t410, .int .i64 t411]) ?_ 0; refine sqPut (cs := #[.int .i64 t410, .int .i64 0]) ?_ 1; refine sqPut (cs := #[.int .i64 0, .int .i64 0]) ?_ 0; exact sqK BK413⟩, ⟨Z42 HI0 NB0_397 NB0_413⟩, ⟨Z43 GW397 GW413⟩, ⟨Z44 HI0 GE397 GE413⟩⟩
 case rest =>
  clear HC10
  try clear c1; try clear c2; try clear p2; try clear c4; try clear c4b0; try clear p4; try clear q4; try clear hx4; try clear c5; try clear c5b0; try clear p6; try clear c8; try clear c11; try clear c13; try clear c21; try clear c22; try clear c24; try clear c25; try clear c26; try clear hcz23_0; try clear hcz23_1; try clear hcz27_0; try clear hcz27_1; try clear hfz23_0; try clear hfz23_1; try clear hfz27_0; try clear hfz27_1; try clear hx403_0; try clear p403; try clear q403
  obtain ⟨kq, x414000_9, x414001_9, HA, HJ9, BK397, BK413, HI0, HK, HB⟩ := hcut
  cases kq with
  | zero => exact absurd HA.out (by simp [spec_l20Fraction.j0])
  | succ kj9 =>
   have H := HA.out
   clear HA
   simp only [spec_l20Fraction.j0] at H
   obtain ⟨⟨t414, t415⟩, A28, H⟩ := sqD H
   try dsimp only at H
   by_cases c29 : t414 = true
   ·subst c29
    rw [if_pos rfl] at H
    obtain ⟨y416, hy416⟩ : ∃ y_ : List (S31), y_ = (([(⟨0, 0⟩ : S31), (⟨2, 4⟩ : S31), (⟨1, (-2)⟩ : S31), (⟨(-1), 0⟩ : S31), (⟨1000001, 1⟩ : S31)] : List (S31))) := ⟨_, rfl⟩
    replace H : ((spec_l20Rd_pick.f kj9 s0_0 t415 5).bind fun bt419 => (if 0 ≤ bt419.1 then (if bt419.1 < (y416.length : Int) then (some ((rd_T31 y416 bt419.1).f0, (rd_T31 y416 bt419.1).f1, bt419.2)) else (none)) else (none))) = some (r1, r2, r3) := sqW hy416 H
    have Ny416 := Aside0.mk hy416
    clear hy416
    obtain ⟨⟨t419, t420⟩, A30, H⟩ := sqD H
    try dsimp only at H
    obtain ⟨c31, H⟩ := sqI H
    have c31b0 : decide (0 ≤ t419) = true := decide_eq_true c31
    clear c31
    obtain ⟨c32, H⟩ := sqI H
    have c32b0 : decide (t419 < (y416.length : Int)) = true := decide_eq_true c32
    clear c32
    obtain ⟨rfl, rfl, rfl⟩ := sqO3 H
    go_wp2_with (first | ((with_reducible refine gate_callee (f := 74) rfl ?_); refine goesL_ (some 32) rfl rfl Tryz.func74 (by kernel_rfl) rfl #[.pointer (some ⟨g, 0, none⟩), .int .i64 a1] rfl sqA ?_; (with_reducible refine (spec_l20Rd_odd.calls kj9 g s0_0 t409 a1 true t415 w0 _ ?side1 ?side2 A28.out).mono ?_); (case side1 => exact Z42 HI0 NB0_397 NB0_413); (case side2 => exact Z44 HI0 GE397 GE413); rintro e w33 ⟨rfl, hi, hb, hk⟩; refine ⟨_, rfl, ?_⟩; replace BK397 := Aside0.mk (KeepBut.blk hk (g' := gb397) (o := .cells #[.int .i64 0, .int .i64 0] 31 (0, 0)) (sqK BK397) NB397_0.out (by simp)); replace BK413 := Aside0.mk (KeepBut.blk hk (g' := gb413) (o := .cells #[.int .i64 x414000_9, .int .i64 x414001_9] 31 (0, 0)) (sqK BK413) NB413_0.out (by simp)); replace HK := Aside0.mk (KeepBut.trans (Z43 GW397 GW413) hk (.inl rfl)); replace HB := Aside0.mk (hb); replace HI0 := Aside0.mk (hi); (try clear hb)) | ((with_reducible refine gate_dst (N := 38) rfl ?_); refine Kd.R_lit k31 _ 31 ?hg (N := 38) ?hd (xs := ([(⟨0, 0⟩ : S31), (⟨2, 4⟩ : S31), (⟨1, (-2)⟩ : S31), (⟨(-1), 0⟩ : S31), (⟨1000001, 1⟩ : S31)] : List (S31))) (inner := [.int .i64 0, .int .i64 0, .int .i64 2, .int .i64 4, .int .i64 1, .int .i64 (-2), .int .i64 (-1), .int .i64 0, .int .i64 1000001, .int .i64 1]) (ok := fun _ => True) (okp := fun _ => True) ?hr ?hp (fun _ hk => hk) trivial (Below.refl _ _) (Nat.le_refl _) (by simp) ?_; (case hd => rfl); (case hg => rfl); (case hr => exact Z7); (case hp => exact (Reps.c2 (show Kd.M k31 _ _ _ (⟨0, 0⟩ : S31) [.int .i64 0, .int .i64 0] from (k31_mkM _ _ _ (⟨0, 0⟩ : S31) )) (Reps.c2 (show Kd.M k31 _ _ _ (⟨2, 4⟩ : S31) [.int .i64 2, .int .i64 4] from (k31_mkM _ _ _ (⟨2, 4⟩ : S31) )) (Reps.c2 (show Kd.M k31 _ _ _ (⟨1, (-2)⟩ : S31) [.int .i64 1, .int .i64 (-2)] from (k31_mkM _ _ _ (⟨1, (-2)⟩ : S31) )) (Reps.c2 (show Kd.M k31 _ _ _ (⟨(-1), 0⟩ : S31) [.int .i64 (-1), .int .i64 0] from (k31_mkM _ _ _ (⟨(-1), 0⟩ : S31) )) (Reps.c2 (show Kd.M k31 _ _ _ (⟨1000001, 1⟩ : S31) [.int .i64 1000001, .int .i64 1] from (k31_mkM _ _ _ (⟨1000001, 1⟩ : S31) )) (Reps.none _ _))))))); intro v417 w34 ho35 hb hg_ hnew_; clear hg_ hnew_; (first | rw [← Ny416.out] at ho35 | (simp only [Int.reduceToNat] at ho35; rw [← Ny416.out] at ho35)); have HO418 := Aside0.mk (Kd.R_lower (Kd.R_newB (Kd.R_newB ho35 (sqK BK397)) (sqK BK413)) (keep_size (w := w) (g := g) (row := none) (Z43 GW397 GW413))); replace BK397 := sqT BK397 hb; replace BK413 := sqT BK413 hb; replace HK := Aside0.mk (KeepBut.trans (Z43 GW397 GW413) (KeepBut.of_below hb g none) (.inl rfl)); replace HB := Aside0.mk (below_step (Z44 HI0 GE397 GE413) hb); replace HI0 := Aside0.mk (IsS131.below (Z42 HI0 NB0_397 NB0_413) hb); clear hb ho35) | ((with_reducible refine gate_callee (f := 82) rfl ?_); refine goesL_ (some 40) rfl rfl Tryz.func82 (by kernel_rfl) rfl #[.pointer (some ⟨g, 0, none⟩), .int .i64 5] rfl sqA ?_; (with_reducible refine (spec_l20Rd_pick.calls kj9 g s0_0 t415 5 t419 t420 w0 _ ?side1 ?side2 A30.out).mono ?_); (case side1 => exact Z42 HI0 NB0_397 NB0_413); (case side2 => exact Z44 HI0 GE397 GE413); rintro e w36 ⟨rfl, hi, hb, hk⟩; refine ⟨_, rfl, ?_⟩; replace BK397 := Aside0.mk (KeepBut.blk hk (g' := gb397) (o := .cells #[.int .i64 0, .int .i64 0] 31 (0, 0)) (sqK BK397) NB397_0.out (by simp)); replace BK413 := Aside0.mk (KeepBut.blk hk (g' := gb413) (o := .cells #[.int .i64 x414000_9, .int .i64 x414001_9] 31 (0, 0)) (sqK BK413) NB413_0.out (by simp)); replace HO418 := Aside0.mk (Kd.R_mono (Kd.R_keep (IsS131.apart (show IsS131 w0 _ g s0_0 t415 from by repeat (first | (with_reducible first | exact HI0.out | apply IsS131.alloc | apply IsS131.drewN | apply IsS131.drew | apply IsS131.set_1 | refine IsS131.far ?_ NB0_397.out _ | refine IsS131.far ?_ NB0_413.out _) | exact HI0.out)) (sqR HO418) (by decide)) hk (fun _ h => h.2)) (fun _ h => h.1)); replace HK := Aside0.mk (KeepBut.trans (Z43 GW397 GW413) hk (.inl rfl)); replace HB := Aside0.mk (hb); replace HI0 := Aside0.mk (hi); (try clear hb); obtain ⟨Ao37, co37, eo37⟩ := Kd.R_slice HO418.out; subst eo37; have p421 : 0 ≤ (t419 : Int) := of_decide_eq_true Z2; have q421 : t419 < (y416.length : Int) := of_decide_eq_true Z2; obtain ⟨ad421, e421, hx421_0, hx421_1⟩ := at_T31 (Kd.R_reads' HO418.out).2.2 t419 p421 q421; cases e421; replace p421 := eq_true p421; replace q421 := eq_true q421; have hnb38 := NB397_413.out; have hnc38 := NB413_397.out; have hnb39 := NB397_0.out; have hnc39 := NB0_397.out; obtain ⟨hcz40_0, hcz40_1, hfz40_0, hfz40_1⟩ := sqY2 BK397))
    refine bodyPost_ret (results_cell_row rfl _ _ gb397 31 #[.int .i64 ((rd_T31 y416 t419).f0), .int .i64 ((rd_T31 y416 t419).f1)] (0, 0) _ rfl (by refine sqPut (cs := #[.int .i64 ((rd_T31 y416 t419).f0), .int .i64 0]) ?_ 1; refine sqPut (cs := #[.int .i64 0, .int .i64 0]) ?_ 0; exact sqK BK397) Tryz.underlying31 rfl (by kernel_rfl)) rfl ?_
    exact ⟨Z3, Z42 HI0 NB0_397 NB0_413, Z44 HI0 GE397 GE413, Z43 GW397 GW413⟩
   ·replace c29 := Bool.eq_false_iff.mpr c29
    subst c29
    rw [if_neg sqF] at H
    obtain ⟨rfl, rfl, rfl⟩ := sqO3 H
    go_wp2_with (first | ((with_reducible refine gate_callee (f := 74) rfl ?_); refine goesL_ (some 32) rfl rfl Tryz.func74 (by kernel_rfl) rfl #[.pointer (some ⟨g, 0, none⟩), .int .i64 a1] rfl sqA ?_; (with_reducible refine (spec_l20Rd_odd.calls kj9 g s0_0 t409 a1 false t415 w0 _ ?side1 ?side2 A28.out).mono ?_); (case side1 => exact Z42 HI0 NB0_397 NB0_413); (case side2 => exact Z44 HI0 GE397 GE413); rintro e w41 ⟨rfl, hi, hb, hk⟩; refine ⟨_, rfl, ?_⟩; replace BK397 := Aside0.mk (KeepBut.blk hk (g' := gb397) (o := .cells #[.int .i64 0, .int .i64 0] 31 (0, 0)) (sqK BK397) NB397_0.out (by simp)); replace BK413 := Aside0.mk (KeepBut.blk hk (g' := gb413) (o := .cells #[.int .i64 x414000_9, .int .i64 x414001_9] 31 (0, 0)) (sqK BK413) NB413_0.out (by simp)); replace HK := Aside0.mk (KeepBut.trans (Z43 GW397 GW413) hk (.inl rfl)); replace HB := Aside0.mk (hb); replace HI0 := Aside0.mk (hi); (try clear hb); have hnb42 := NB413_397.out; have hnc42 := NB397_413.out; have hnb43 := NB413_0.out; have hnc43 := NB0_413.out; obtain ⟨hcz44_0, hcz44_1, hfz44_0, hfz44_1⟩ := sqY2 BK413; have hnb45 := NB397_0.out; have hnc45 := NB0_397.out; obtain ⟨hcz46_0, hcz46_1, hfz46_0, hfz46_1⟩ := sqY2 BK397))
    refine bodyPost_ret (results_cell_row rfl _ _ gb397 31 #[.int .i64 x414000_9, .int .i64 x414001_9] (0, 0) _ rfl (by refine sqPut (cs := #[.int .i64 x414000_9, .int .i64 0]) ?_ 1; refine sqPut (cs := #[.int .i64 0, .int .i64 0]) ?_ 0; exact sqK BK397) Tryz.underlying31 rfl (by kernel_rfl)) rfl ?_
    exact ⟨Z3, Z42 HI0 NB0_397 NB0_413, Z44 HI0 GE397 GE413, Z43 GW397 GW413⟩

/-! ### spec_l20Tied: function 115 -/
def spec_l20Tied.f (k : Nat) (s0_0 : List Int) (s0_1 : Int) : Option (Int × Int × Int) := (spec_l20Rd_odd.f k s0_0 s0_1 9).bind fun bt423 => (if bt423.1 = true then ((spec_l20Fraction.f k s0_0 bt423.2 3).bind fun bt425 => (some (bt425.1, bt425.2.1, bt425.2.2))) else ((spec_l20Rd_pick.f k s0_0 bt423.2 13).bind fun bt428 => ((spec_l20Rd_pick.f k s0_0 bt428.2 13).bind fun bt430 => ((spec_l20Rd_pick.f k s0_0 bt430.2 13).bind fun bt432 => ((spec_LowestOf.f k (wrap64 (bt428.1 - bt430.1)) bt432.1).bind fun bt434 => (if bt434.2.2 = true then (some (bt434.1, bt434.2.1, bt432.2)) else (some (1, 0, bt432.2))))))))
theorem spec_l20Tied.mono : ∀ a0 a1 k, LeO (spec_l20Tied.f k a0 a1) (spec_l20Tied.f (k + 1) a0 a1) := by
 intro a0 a1 k
 unfold spec_l20Tied.f
 repeat' first
   | (with_reducible exact spec_LowestOf.mono _ _ _)
   | (with_reducible exact spec_l20Fraction.mono _ _ _ _)
   | (with_reducible exact spec_l20Rd_odd.mono _ _ _ _)
   | (with_reducible exact spec_l20Rd_pick.mono _ _ _ _)
   | (with_reducible exact LeO.refl _)
   | (with_reducible exact LeO.none _)
   | (with_reducible refine LeO.ite ?_ ?_)
   | (with_reducible refine LeO.bind ?_ (fun _ => ?_))
set_option maxHeartbeats 8000000 in
set_option maxRecDepth 100000 in
theorem spec_l20Tied.calls (k : Nat) (g : Nat) (s0_0 : List Int) (s0_1 : Int) (r1 : Int) (r2 : Int) (r3 : Int) (w0 w : World) (hI : IsS131 w0 w g s0_0 s0_1) (hB : Below w0.heap.size w0 w) (h : spec_l20Tied.f k s0_0 s0_1 = some (r1, r2, r3)) :
  Calls Tryz.prog 115 #[.pointer (some ⟨g, 0, none⟩)] w fun e w' => e = .returned (.agg #[.int .i64 r1, .int .i64 r2]) ∧ IsS131 w0 w' g s0_0 r3 ∧ Below w0.heap.size w0 w' ∧ KeepBut w w' g none := by
 have hu31 := Tryz.underlying31
 have HI0 := Aside0.mk hI
 have HK := Aside0.mk (KeepBut.refl w g none)
 have HL := Aside0.mk hB.size
 clear hI
 have HW0 := Aside0.mk hB.size
 have HB := Aside0.mk hB
 clear hB
 have H : ((spec_l20Rd_odd.f k s0_0 s0_1 9).bind fun bt423 => (if bt423.1 = true then ((spec_l20Fraction.f k s0_0 bt423.2 3).bind fun bt425 => (some (bt425.1, bt425.2.1, bt425.2.2))) else ((spec_l20Rd_pick.f k s0_0 bt423.2 13).bind fun bt428 => ((spec_l20Rd_pick.f k s0_0 bt428.2 13).bind fun bt430 => ((spec_l20Rd_pick.f k s0_0 bt430.2 13).bind fun bt432 => ((spec_LowestOf.f k (wrap64 (bt428.1 - bt430.1)) bt432.1).bind fun bt434 => (if bt434.2.2 = true then (some (bt434.1, bt434.2.1, bt432.2)) else (some (1, 0, bt432.2))))))))) = some (r1, r2, r3) := h
 clear h
 obtain ⟨⟨t423, t424⟩, A2, H⟩ := sqD H
 try dsimp only at H
 by_cases c3 : t423 = true
 ·subst c3
  rw [if_pos rfl] at H
  obtain ⟨⟨t425, t426, t427⟩, A4, H⟩ := sqD H
  try dsimp only at H
  obtain ⟨rfl, rfl, rfl⟩ := sqO3 H
  go_enter Tryz.func115, Tryz.ntmps115
  go_wp2_with (first | ((with_reducible refine gate_dst (N := 2) rfl ?_); refine sqBox (N := 2) (cs := #[.int .i64 0, .int .i64 0]) (t := 31) ?_; intro gb422 hg w5 BK422 hb; replace HB := Aside0.mk (below_step (Z36 HI0) hb); have GW422 := Aside0.mk ((Z110 : w.heap.size ≤ gb422)); have GE422 := Aside0.mk ((Nat.le_trans HW0.out (Z110 : w.heap.size ≤ gb422) : w0.heap.size ≤ gb422)); replace HK := Aside0.mk (KeepBut.trans Z35 (KeepBut.of_below hb g none) (.inl rfl)); have NB0_422 := Aside0.mk ((Z37 HI0 : g ≠ gb422)); have NB422_0 := Aside0.mk ((Z38 HI0 : gb422 ≠ g)); replace HI0 := Aside0.mk (IsS131.below (Z34 HI0) hb); clear hb hg) | ((with_reducible refine gate_callee (f := 74) rfl ?_); refine goesL_ (some 6) rfl rfl Tryz.func74 (by kernel_rfl) rfl #[.pointer (some ⟨g, 0, none⟩), .int .i64 9] rfl sqA ?_; (with_reducible refine (spec_l20Rd_odd.calls k g s0_0 s0_1 9 true t424 w0 _ ?side1 ?side2 A2.out).mono ?_); (case side1 => exact Z41 HI0 NB0_422); (case side2 => exact Z40 HI0 GE422); rintro e w6 ⟨rfl, hi, hb, hk⟩; refine ⟨_, rfl, ?_⟩; replace BK422 := Aside0.mk (KeepBut.blk hk (g' := gb422) (o := .cells #[.int .i64 0, .int .i64 0] 31 (0, 0)) (sqK BK422) NB422_0.out (by simp)); replace HK := Aside0.mk (KeepBut.trans (Z39 GW422) hk (.inl rfl)); replace HB := Aside0.mk (hb); replace HI0 := Aside0.mk (hi); (try clear hb)) | ((with_reducible refine gate_callee (f := 113) rfl ?_); refine goesL_ (some 8) rfl rfl Tryz.func113 (by kernel_rfl) rfl #[.pointer (some ⟨g, 0, none⟩), .int .i64 3] rfl sqA ?_; (with_reducible refine (spec_l20Fraction.calls k g s0_0 t424 3 t425 t426 t427 w0 _ ?side1 ?side2 A4.out).mono ?_); (case side1 => exact Z41 HI0 NB0_422); (case side2 => exact Z40 HI0 GE422); rintro e w7 ⟨rfl, hi, hb, hk⟩; refine ⟨_, rfl, ?_⟩; replace BK422 := Aside0.mk (KeepBut.blk hk (g' := gb422) (o := .cells #[.int .i64 0, .int .i64 0] 31 (0, 0)) (sqK BK422) NB422_0.out (by simp)); replace HK := Aside0.mk (KeepBut.trans (Z39 GW422) hk (.inl rfl)); replace HB := Aside0.mk (hb); replace HI0 := Aside0.mk (hi); (try clear hb); have hnb8 := NB422_0.out; have hnc8 := NB0_422.out; obtain ⟨hcz9_0, hcz9_1, hfz9_0, hfz9_1⟩ := sqY2 BK422))
  refine bodyPost_ret (results_cell_row rfl _ _ gb422 31 #[.int .i64 t425, .int .i64 t426] (0, 0) _ rfl (by refine sqPut (cs := #[.int .i64 t425, .int .i64 0]) ?_ 1; refine sqPut (cs := #[.int .i64 0, .int .i64 0]) ?_ 0; exact sqK BK422) Tryz.underlying31 rfl (by kernel_rfl)) rfl ?_
  exact ⟨Z3, Z41 HI0 NB0_422, Z40 HI0 GE422, Z39 GW422⟩
 ·replace c3 := Bool.eq_false_iff.mpr c3
  subst c3
  rw [if_neg sqF] at H
  obtain ⟨⟨t428, t429⟩, A10, H⟩ := sqD H
  try dsimp only at H
  obtain ⟨⟨t430, t431⟩, A11, H⟩ := sqD H
  try dsimp only at H
  obtain ⟨⟨t432, t433⟩, A12, H⟩ := sqD H
  try dsimp only at H
  obtain ⟨⟨t434, t435, t436⟩, A13, H⟩ := sqD H
  try dsimp only at H
  by_cases c14 : t436 = true
  ·subst c14
   rw [if_pos rfl] at H
   obtain ⟨rfl, rfl, rfl⟩ := sqO3 H
   go_enter Tryz.func115, Tryz.ntmps115
   go_wp2_with (first | ((with_reducible refine gate_dst (N := 2) rfl ?_); refine sqBox (N := 2) (cs := #[.int .i64 0, .int .i64 0]) (t := 31) ?_; intro gb422 hg w15 BK422 hb; replace HB := Aside0.mk (below_step (Z36 HI0) hb); have GW422 := Aside0.mk ((Z110 : w.heap.size ≤ gb422)); have GE422 := Aside0.mk ((Nat.le_trans HW0.out (Z110 : w.heap.size ≤ gb422) : w0.heap.size ≤ gb422)); replace HK := Aside0.mk (KeepBut.trans Z35 (KeepBut.of_below hb g none) (.inl rfl)); have NB0_422 := Aside0.mk ((Z37 HI0 : g ≠ gb422)); have NB422_0 := Aside0.mk ((Z38 HI0 : gb422 ≠ g)); replace HI0 := Aside0.mk (IsS131.below (Z34 HI0) hb); clear hb hg) | ((with_reducible refine gate_callee (f := 74) rfl ?_); refine goesL_ (some 6) rfl rfl Tryz.func74 (by kernel_rfl) rfl #[.pointer (some ⟨g, 0, none⟩), .int .i64 9] rfl sqA ?_; (with_reducible refine (spec_l20Rd_odd.calls k g s0_0 s0_1 9 false t424 w0 _ ?side1 ?side2 A2.out).mono ?_); (case side1 => exact Z41 HI0 NB0_422); (case side2 => exact Z40 HI0 GE422); rintro e w16 ⟨rfl, hi, hb, hk⟩; refine ⟨_, rfl, ?_⟩; replace BK422 := Aside0.mk (KeepBut.blk hk (g' := gb422) (o := .cells #[.int .i64 0, .int .i64 0] 31 (0, 0)) (sqK BK422) NB422_0.out (by simp)); replace HK := Aside0.mk (KeepBut.trans (Z39 GW422) hk (.inl rfl)); replace HB := Aside0.mk (hb); replace HI0 := Aside0.mk (hi); (try clear hb)) | ((with_reducible refine gate_callee (f := 82) rfl ?_); refine goesL_ (some 11) rfl rfl Tryz.func82 (by kernel_rfl) rfl #[.pointer (some ⟨g, 0, none⟩), .int .i64 13] rfl sqA ?_; (with_reducible refine (spec_l20Rd_pick.calls k g s0_0 t424 13 t428 t429 w0 _ ?side1 ?side2 A10.out).mono ?_); (case side1 => exact Z41 HI0 NB0_422); (case side2 => exact Z40 HI0 GE422); rintro e w17 ⟨rfl, hi, hb, hk⟩; refine ⟨_, rfl, ?_⟩; replace BK422 := Aside0.mk (KeepBut.blk hk (g' := gb422) (o := .cells #[.int .i64 0, .int .i64 0] 31 (0, 0)) (sqK BK422) NB422_0.out (by simp)); replace HK := Aside0.mk (KeepBut.trans (Z39 GW422) hk (.inl rfl)); replace HB := Aside0.mk (hb); replace HI0 := Aside0.mk (hi); (try clear hb)) | ((with_reducible refine gate_callee (f := 82) rfl ?_); refine goesL_ (some 13) rfl rfl Tryz.func82 (by kernel_rfl) rfl #[.pointer (some ⟨g, 0, none⟩), .int .i64 13] rfl sqA ?_; (with_reducible refine (spec_l20Rd_pick.calls k g s0_0 t429 13 t430 t431 w0 _ ?side1 ?side2 A11.out).mono ?_); (case side1 => exact Z41 HI0 NB0_422); (case side2 => exact Z40 HI0 GE422); rintro e w18 ⟨rfl, hi, hb, hk⟩; refine ⟨_, rfl, ?_⟩; replace BK422 := Aside0.mk (KeepBut.blk hk (g' := gb422) (o := .cells #[.int .i64 0, .int .i64 0] 31 (0, 0)) (sqK BK422) NB422_0.out (by simp)); replace HK := Aside0.mk (KeepBut.trans (Z39 GW422) hk (.inl rfl)); replace HB := Aside0.mk (hb); replace HI0 := Aside0.mk (hi); (try clear hb)) | ((with_reducible refine gate_callee (f := 82) rfl ?_); refine goesL_ (some 16) rfl rfl Tryz.func82 (by kernel_rfl) rfl #[.pointer (some ⟨g, 0, none⟩), .int .i64 13] rfl sqA ?_; (with_reducible refine (spec_l20Rd_pick.calls k g s0_0 t431 13 t432 t433 w0 _ ?side1 ?side2 A12.out).mono ?_); (case side1 => exact Z41 HI0 NB0_422); (case side2 => exact Z40 HI0 GE422); rintro e w19 ⟨rfl, hi, hb, hk⟩; refine ⟨_, rfl, ?_⟩; replace BK422 := Aside0.mk (KeepBut.blk hk (g' := gb422) (o := .cells #[.int .i64 0, .int .i64 0] 31 (0, 0)) (sqK BK422) NB422_0.out (by simp)); replace HK := Aside0.mk (KeepBut.trans (Z39 GW422) hk (.inl rfl)); replace HB := Aside0.mk (hb); replace HI0 := Aside0.mk (hi); (try clear hb)) | ((with_reducible refine gate_callee (f := 136) rfl ?_); refine goesL_ (some 17) rfl rfl Tryz.func136 (by kernel_rfl) rfl #[.int .i64 (wrap64 (t428 - t430)), .int .i64 t432] rfl sqA ?_; (with_reducible refine (spec_LowestOf.calls k (wrap64 (t428 - t430)) t432 t434 t435 true _ A13.out).mono ?_); rintro e w20 ⟨rfl, hb⟩; refine ⟨_, rfl, ?_⟩; replace BK422 := sqT BK422 hb; replace HK := Aside0.mk (KeepBut.trans (Z39 GW422) (KeepBut.of_below hb g none) (.inl rfl)); replace HB := Aside0.mk (below_step (Z40 HI0 GE422) hb); replace HI0 := Aside0.mk (IsS131.below (Z41 HI0 NB0_422) hb); (try clear hb)) | ((with_reducible refine gate_dst (N := 3) rfl ?_); refine sqBox (N := 3) (cs := #[.int .i64 0, .int .i64 0]) (t := 31) ?_; intro gb437 hg w21 BK437 hb; replace HB := Aside0.mk (below_step (Z40 HI0 GE422) hb); have GW437 := Aside0.mk ((Z111 GW422 : w.heap.size ≤ gb437)); have GE437 := Aside0.mk ((Nat.le_trans HW0.out (Z111 GW422 : w.heap.size ≤ gb437) : w0.heap.size ≤ gb437)); replace HK := Aside0.mk (KeepBut.trans (Z39 GW422) (KeepBut.of_below hb g none) (.inl rfl)); obtain ⟨NB422_437, NB437_422⟩ := sqM hg BK422; replace BK422 := sqT BK422 hb; have NB0_437 := Aside0.mk ((Z45 HI0 NB0_422 : g ≠ gb437)); have NB437_0 := Aside0.mk ((Z46 HI0 NB0_422 : gb437 ≠ g)); replace HI0 := Aside0.mk (IsS131.below (Z41 HI0 NB0_422) hb); clear hb hg; have hnb22 := NB437_422.out; have hnc22 := NB422_437.out; have hnb23 := NB437_0.out; have hnc23 := NB0_437.out; obtain ⟨hcz24_0, hcz24_1, hfz24_0, hfz24_1⟩ := sqY2 BK437; have hnb25 := NB422_0.out; have hnc25 := NB0_422.out; obtain ⟨hcz26_0, hcz26_1, hfz26_0, hfz26_1⟩ := sqY2 BK422))
   refine bodyPost_ret (results_cell_row rfl _ _ gb422 31 #[.int .i64 t434, .int .i64 t435] (0, 0) _ rfl (by refine sqPut (cs := #[.int .i64 t434, .int .i64 0]) ?_ 1; refine sqPut (cs := #[.int .i64 0, .int .i64 0]) ?_ 0; refine sqFar ?_ NB422_437; refine sqFar ?_ NB422_437; exact sqK BK422) Tryz.underlying31 rfl (by kernel_rfl)) rfl ?_
   exact ⟨Z3, Z42 HI0 NB0_422 NB0_437, Z44 HI0 GE422 GE437, Z43 GW422 GW437⟩
  ·replace c14 := Bool.eq_false_iff.mpr c14
   subst c14
   rw [if_neg sqF] at H
   obtain ⟨rfl, rfl, rfl⟩ := sqO3 H
   go_enter Tryz.func115, Tryz.ntmps115
   go_wp2_with (first | ((with_reducible refine gate_dst (N := 2) rfl ?_); refine sqBox (N := 2) (cs := #[.int .i64 0, .int .i64 0]) (t := 31) ?_; intro gb422 hg w27 BK422 hb; replace HB := Aside0.mk (below_step (Z36 HI0) hb); have GW422 := Aside0.mk ((Z110 : w.heap.size ≤ gb422)); have GE422 := Aside0.mk ((Nat.le_trans HW0.out (Z110 : w.heap.size ≤ gb422) : w0.heap.size ≤ gb422)); replace HK := Aside0.mk (KeepBut.trans Z35 (KeepBut.of_below hb g none) (.inl rfl)); have NB0_422 := Aside0.mk ((Z37 HI0 : g ≠ gb422)); have NB422_0 := Aside0.mk ((Z38 HI0 : gb422 ≠ g)); replace HI0 := Aside0.mk (IsS131.below (Z34 HI0) hb); clear hb hg) | ((with_reducible refine gate_callee (f := 74) rfl ?_); refine goesL_ (some 6) rfl rfl Tryz.func74 (by kernel_rfl) rfl #[.pointer (some ⟨g, 0, none⟩), .int .i64 9] rfl sqA ?_; (with_reducible refine (spec_l20Rd_odd.calls k g s0_0 s0_1 9 false t424 w0 _ ?side1 ?side2 A2.out).mono ?_); (case side1 => exact Z41 HI0 NB0_422); (case side2 => exact Z40 HI0 GE422); rintro e w28 ⟨rfl, hi, hb, hk⟩; refine ⟨_, rfl, ?_⟩; replace BK422 := Aside0.mk (KeepBut.blk hk (g' := gb422) (o := .cells #[.int .i64 0, .int .i64 0] 31 (0, 0)) (sqK BK422) NB422_0.out (by simp)); replace HK := Aside0.mk (KeepBut.trans (Z39 GW422) hk (.inl rfl)); replace HB := Aside0.mk (hb); replace HI0 := Aside0.mk (hi); (try clear hb)) | ((with_reducible refine gate_callee (f := 82) rfl ?_); refine goesL_ (some 11) rfl rfl Tryz.func82 (by kernel_rfl) rfl #[.pointer (some ⟨g, 0, none⟩), .int .i64 13] rfl sqA ?_; (with_reducible refine (spec_l20Rd_pick.calls k g s0_0 t424 13 t428 t429 w0 _ ?side1 ?side2 A10.out).mono ?_); (case side1 => exact Z41 HI0 NB0_422); (case side2 => exact Z40 HI0 GE422); rintro e w29 ⟨rfl, hi, hb, hk⟩; refine ⟨_, rfl, ?_⟩; replace BK422 := Aside0.mk (KeepBut.blk hk (g' := gb422) (o := .cells #[.int .i64 0, .int .i64 0] 31 (0, 0)) (sqK BK422) NB422_0.out (by simp)); replace HK := Aside0.mk (KeepBut.trans (Z39 GW422) hk (.inl rfl)); replace HB := Aside0.mk (hb); replace HI0 := Aside0.mk (hi); (try clear hb)) | ((with_reducible refine gate_callee (f := 82) rfl ?_); refine goesL_ (some 13) rfl rfl Tryz.func82 (by kernel_rfl) rfl #[.pointer (some ⟨g, 0, none⟩), .int .i64 13] rfl sqA ?_; (with_reducible refine (spec_l20Rd_pick.calls k g s0_0 t429 13 t430 t431 w0 _ ?side1 ?side2 A11.out).mono ?_); (case side1 => exact Z41 HI0 NB0_422); (case side2 => exact Z40 HI0 GE422); rintro e w30 ⟨rfl, hi, hb, hk⟩; refine ⟨_, rfl, ?_⟩; replace BK422 := Aside0.mk (KeepBut.blk hk (g' := gb422) (o := .cells #[.int .i64 0, .int .i64 0] 31 (0, 0)) (sqK BK422) NB422_0.out (by simp)); replace HK := Aside0.mk (KeepBut.trans (Z39 GW422) hk (.inl rfl)); replace HB := Aside0.mk (hb); replace HI0 := Aside0.mk (hi); (try clear hb)) | ((with_reducible refine gate_callee (f := 82) rfl ?_); refine goesL_ (some 16) rfl rfl Tryz.func82 (by kernel_rfl) rfl #[.pointer (some ⟨g, 0, none⟩), .int .i64 13] rfl sqA ?_; (with_reducible refine (spec_l20Rd_pick.calls k g s0_0 t431 13 t432 t433 w0 _ ?side1 ?side2 A12.out).mono ?_); (case side1 => exact Z41 HI0 NB0_422); (case side2 => exact Z40 HI0 GE422); rintro e w31 ⟨rfl, hi, hb, hk⟩; refine ⟨_, rfl, ?_⟩; replace BK422 := Aside0.mk (KeepBut.blk hk (g' := gb422) (o := .cells #[.int .i64 0, .int .i64 0] 31 (0, 0)) (sqK BK422) NB422_0.out (by simp)); replace HK := Aside0.mk (KeepBut.trans (Z39 GW422) hk (.inl rfl)); replace HB := Aside0.mk (hb); replace HI0 := Aside0.mk (hi); (try clear hb)) | ((with_reducible refine gate_callee (f := 136) rfl ?_); refine goesL_ (some 17) rfl rfl Tryz.func136 (by kernel_rfl) rfl #[.int .i64 (wrap64 (t428 - t430)), .int .i64 t432] rfl sqA ?_; (with_reducible refine (spec_LowestOf.calls k (wrap64 (t428 - t430)) t432 t434 t435 false _ A13.out).mono ?_); rintro e w32 ⟨rfl, hb⟩; refine ⟨_, rfl, ?_⟩; replace BK422 := sqT BK422 hb; replace HK := Aside0.mk (KeepBut.trans (Z39 GW422) (KeepBut.of_below hb g none) (.inl rfl)); replace HB := Aside0.mk (below_step (Z40 HI0 GE422) hb); replace HI0 := Aside0.mk (IsS131.below (Z41 HI0 NB0_422) hb); (try clear hb)) | ((with_reducible refine gate_dst (N := 3) rfl ?_); refine sqBox (N := 3) (cs := #[.int .i64 0, .int .i64 0]) (t := 31) ?_; intro gb437 hg w33 BK437 hb; replace HB := Aside0.mk (below_step (Z40 HI0 GE422) hb); have GW437 := Aside0.mk ((Z111 GW422 : w.heap.size ≤ gb437)); have GE437 := Aside0.mk ((Nat.le_trans HW0.out (Z111 GW422 : w.heap.size ≤ gb437) : w0.heap.size ≤ gb437)); replace HK := Aside0.mk (KeepBut.trans (Z39 GW422) (KeepBut.of_below hb g none) (.inl rfl)); obtain ⟨NB422_437, NB437_422⟩ := sqM hg BK422; replace BK422 := sqT BK422 hb; have NB0_437 := Aside0.mk ((Z45 HI0 NB0_422 : g ≠ gb437)); have NB437_0 := Aside0.mk ((Z46 HI0 NB0_422 : gb437 ≠ g)); replace HI0 := Aside0.mk (IsS131.below (Z41 HI0 NB0_422) hb); clear hb hg; have hnb34 := NB437_422.out; have hnc34 := NB422_437.out; have hnb35 := NB437_0.out; have hnc35 := NB0_437.out; obtain ⟨hcz36_0, hcz36_1, hfz36_0, hfz36_1⟩ := sqY2 BK437; have hnb37 := NB422_0.out; have hnc37 := NB0_422.out; obtain ⟨hcz38_0, hcz38_1, hfz38_0, hfz38_1⟩ := sqY2 BK422))
   refine bodyPost_ret (results_cell_row rfl _ _ gb422 31 #[.int .i64 1, .int .i64 0] (0, 0) _ rfl (by refine sqPut (cs := #[.int .i64 1, .int .i64 0]) ?_ 1; refine sqPut (cs := #[.int .i64 0, .int .i64 0]) ?_ 0; refine sqFar ?_ NB422_437; refine sqFar ?_ NB422_437; exact sqK BK422) Tryz.underlying31 rfl (by kernel_rfl)) rfl ?_
   exact ⟨Z3, Z42 HI0 NB0_422 NB0_437, Z44 HI0 GE422 GE437, Z43 GW422 GW437⟩

end Go.Proofs.YtofmlbgfcohhoaaGreatDoor.PFnDeskDo
