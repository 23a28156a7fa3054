/- Lean functions of the Go functions that the law FnDeskDo reaches, each with its contract: made by a program of this session. -/
import Derived.Test.YtofmlbgfcohhoaaGreatDoorPFnDeskDox10
namespace Go.Proofs.YtofmlbgfcohhoaaGreatDoor.PFnDeskDo
open Go.RowKit Go.Proofs.YtofmlbgfcohhoaaGreatDoorW.PrintWords Go.Proofs.YtofmlbgfcohhoaaGreatDoorW.PrintLast Go.Proofs.YtofmlbgfcohhoaaGreatDoorW.PrintMore Go.Proofs.YtofmlbgfcohhoaaGreatDoor.Lib
attribute [local go_sem] max2_int min2_int max_two min_two max_three min_three max_four min_four   -- for this text's walks alone
set_option linter.unusedVariables false
set_option linter.unusedSimpArgs false

/-! ### impl_lowest: function 120 -/
def impl_lowest.f (k : Nat) (a0 : Int) (a1 : Int) : Option (Int × Int) := (impl_gcd.f k a0 a1).bind fun t273 => (if a1 < 0 then (if (wrap64 (-t273)) = 0 then (none) else (some (wrap64 (Int.tdiv a0 (wrap64 (-t273))), wrap64 (Int.tdiv a1 (wrap64 (-t273)))))) else (if a1 = 0 then (if a0 < 0 then (if (wrap64 (-t273)) = 0 then (none) else (some (wrap64 (Int.tdiv a0 (wrap64 (-t273))), wrap64 (Int.tdiv a1 (wrap64 (-t273)))))) else (if t273 = 0 then (none) else (some (wrap64 (Int.tdiv a0 t273), wrap64 (Int.tdiv a1 t273))))) else (if t273 = 0 then (none) else (some (wrap64 (Int.tdiv a0 t273), wrap64 (Int.tdiv a1 t273))))))
theorem impl_lowest.mono : ∀ a0 a1 k, LeO (impl_lowest.f k a0 a1) (impl_lowest.f (k + 1) a0 a1) := by
 intro a0 a1 k
 unfold impl_lowest.f
 repeat' first
   | (with_reducible exact impl_gcd.mono _ _ _)
   | (with_reducible exact LeO.refl _)
   | (with_reducible exact LeO.none _)
   | (with_reducible refine LeO.ite ?_ ?_)
   | (with_reducible refine LeO.bind ?_ (fun _ => ?_))
def impl_lowest.T4 : Bool × List (List Nat × List Nat) := (true, [([], []), ([], []), ([0, 1], [0, 1]), ([], []), ([], []), ([3, 4], [3, 4]), ([2, 5], [2, 5]), ([6, 0, 1, 2, 3, 4, 5, 6], [6])])
def impl_lowest.B4 : List Nat := [0, 0, 3, 0, 0, 24, 63, 127]
theorem impl_lowest.tab4 : rtab .any (opsOf Tryz.f120 4) = impl_lowest.T4 := by kernel_rfl
theorem impl_lowest.bits4 : waitsOk impl_lowest.T4.2 impl_lowest.B4 = true := by kernel_rfl
set_option maxHeartbeats 8000000 in
set_option maxRecDepth 100000 in
theorem impl_lowest.calls (k : Nat) (a0 : Int) (a1 : Int) (r1 : Int) (r2 : Int) (w : World) (h : impl_lowest.f k a0 a1 = some (r1, r2)) :
  Calls Tryz.prog 120 #[.int .i64 a0, .int .i64 a1] w fun e w' => e = .returned (.agg #[.int .i64 r1, .int .i64 r2]) ∧ Below w.heap.size w w' := by
 have hu31 := Tryz.underlying31
 have HB := Aside0.mk (Below.refl w.heap.size w)
 have H : ((impl_gcd.f k a0 a1).bind fun t273 => (if a1 < 0 then (if (wrap64 (-t273)) = 0 then (none) else (some (wrap64 (Int.tdiv a0 (wrap64 (-t273))), wrap64 (Int.tdiv a1 (wrap64 (-t273)))))) else (if a1 = 0 then (if a0 < 0 then (if (wrap64 (-t273)) = 0 then (none) else (some (wrap64 (Int.tdiv a0 (wrap64 (-t273))), wrap64 (Int.tdiv a1 (wrap64 (-t273)))))) else (if t273 = 0 then (none) else (some (wrap64 (Int.tdiv a0 t273), wrap64 (Int.tdiv a1 t273))))) else (if t273 = 0 then (none) else (some (wrap64 (Int.tdiv a0 t273), wrap64 (Int.tdiv a1 t273))))))) = some (r1, r2) := h
 clear h
 obtain ⟨t273, A3, H⟩ := sqD H
 by_cases c4 : a1 < 0
 ·rw [if_pos c4] at H
  have c4b0 : decide (a1 < 0) = true := decide_eq_true c4
  clear c4
  by_cases c5 : (wrap64 (-t273)) = 0
  ·rw [if_pos c5] at H
   exact absurd H (by simp)
  ·rw [if_neg c5] at H
   have c5b0 : ((wrap64 (-t273)) == 0) = false := beq_eq_false_iff_ne.mpr c5
   have c5b1 : ((wrap64 (-t273)) != 0) = true := bne_iff_ne.mpr c5
   obtain ⟨rfl, rfl⟩ := sqO2 H
   go_enter Tryz.func120, Tryz.ntmps120
   try go_wp2_with (first | ((with_reducible refine gate_dst (N := 4) rfl ?_); refine sqBox (N := 4) (cs := #[.int .i64 0, .int .i64 0]) (t := 31) ?_; intro gb272 hg w6 BK272 hb; have GW272 := Aside0.mk ((sqG hg (sqB HB))); have GE272 := GW272; replace HB := sqS (sqB HB) hb; clear hb hg) | ((with_reducible refine gate_callee (f := 117) rfl ?_); refine goesL_ (some 8) rfl rfl Tryz.func117 (by kernel_rfl) rfl #[.int .i64 a0, .int .i64 a1] rfl sqA ?_; (with_reducible refine (impl_gcd.calls k a0 a1 t273 _ A3.out).mono ?_); rintro e w7 ⟨rfl, hb⟩; refine ⟨_, rfl, ?_⟩; replace BK272 := sqT BK272 hb; replace HB := sqS (sqB1 HB GE272) hb; (try clear hb)))
   replace BK272 := Aside0.mk (blk_drew BK272.out)
   replace HB := Aside0.mk (below_drew1 HB.out)
   refine start_ (n := 8) (S := fun w' => True) (ds := []) #[false, false, false, false, false, false, false, false] (by kernel_rfl) rfl rfl trivial (fun hHeld => ?_); refine with_tabW impl_lowest.tab4 impl_lowest.bits4 (fun HT_ HW_ => ?_)
   generalize w7.drew = w8 at BK272 HB hHeld ⊢
   refine sqP (i := 0) (N := some 21) (h := ?_)
   refine sqP (i := 1) (N := some 22) (h := ?_)
   refine sqP (i := 2) (N := some 23) (h := ?_)
   refine sqP (i := 3) (N := some 24) (h := ?_)
   refine sqP (i := 4) (N := some 25) (h := ?_)
   refine sqP (i := 5) (N := some 26) (h := ?_)
   refine sqP (i := 6) (N := some 27) (h := ?_)
   refine one_ (i := 7) (N := none) #[true, true, true, true, true, true, true, true] rfl rfl (one_of HT_.out (by kernel_rfl)) (by decide) (fun K hK => ?_)
   have hs9 : w8.cell? ⟨gb272, 0, none⟩ = some (.int .i64 0) := (blk_cell BK272.out 0).trans rfl
   have hfs9 := blk_frozen BK272.out 0
   have hs10 : w8.cell? ⟨gb272, 1, none⟩ = some (.int .i64 0) := (blk_cell BK272.out 1).trans rfl
   have hfs10 := blk_frozen BK272.out 1
   refine skip_ (w1 := ?_) (by rfl) rfl ?_ ?_
   rotate_left
   ·go_simp
    rfl
   refine hK.out _ _ trivial (fun hHeld => ?_)
   clear hK K
   refine done_ (done_of HT_.out (by kernel_rfl)) ?_
   try go_wp2
   refine bodyPost_ret (results_cell_row rfl _ _ gb272 31 #[.int .i64 (wrap64 (Int.tdiv a0 (wrap64 (-t273)))), .int .i64 (wrap64 (Int.tdiv a1 (wrap64 (-t273))))] (0, 0) _ rfl (Z12 BK272) Tryz.underlying31 rfl (by kernel_rfl)) rfl ?_
   exact ⟨Z3, sqB1 HB GE272⟩
 ·rw [if_neg c4] at H
  have c4b0 : decide (a1 < 0) = false := decide_eq_false c4
  clear c4
  by_cases c11 : a1 = 0
  ·rw [if_pos c11] at H
   have c11b0 : (a1 == 0) = true := beq_iff_eq.mpr c11
   have c11b1 : (a1 != 0) = false := bne_eq_false_iff_eq.mpr c11
   clear c11
   by_cases c12 : a0 < 0
   ·rw [if_pos c12] at H
    have c12b0 : decide (a0 < 0) = true := decide_eq_true c12
    clear c12
    by_cases c13 : (wrap64 (-t273)) = 0
    ·rw [if_pos c13] at H
     exact absurd H (by simp)
    ·rw [if_neg c13] at H
     have c13b0 : ((wrap64 (-t273)) == 0) = false := beq_eq_false_iff_ne.mpr c13
     have c13b1 : ((wrap64 (-t273)) != 0) = true := bne_iff_ne.mpr c13
     obtain ⟨rfl, rfl⟩ := sqO2 H
     go_enter Tryz.func120, Tryz.ntmps120
     try go_wp2_with (first | ((with_reducible refine gate_dst (N := 4) rfl ?_); refine sqBox (N := 4) (cs := #[.int .i64 0, .int .i64 0]) (t := 31) ?_; intro gb272 hg w14 BK272 hb; have GW272 := Aside0.mk ((sqG hg (sqB HB))); have GE272 := GW272; replace HB := sqS (sqB HB) hb; clear hb hg) | ((with_reducible refine gate_callee (f := 117) rfl ?_); refine goesL_ (some 8) rfl rfl Tryz.func117 (by kernel_rfl) rfl #[.int .i64 a0, .int .i64 a1] rfl sqA ?_; (with_reducible refine (impl_gcd.calls k a0 a1 t273 _ A3.out).mono ?_); rintro e w15 ⟨rfl, hb⟩; refine ⟨_, rfl, ?_⟩; replace BK272 := sqT BK272 hb; replace HB := sqS (sqB1 HB GE272) hb; (try clear hb)))
     replace BK272 := Aside0.mk (blk_drew BK272.out)
     replace HB := Aside0.mk (below_drew1 HB.out)
     refine start_ (n := 8) (S := fun w' => True) (ds := []) #[false, false, false, false, false, false, false, false] (by kernel_rfl) rfl rfl trivial (fun hHeld => ?_); refine with_tabW impl_lowest.tab4 impl_lowest.bits4 (fun HT_ HW_ => ?_)
     generalize w15.drew = w16 at BK272 HB hHeld ⊢
     refine sqP (i := 0) (N := some 21) (h := ?_)
     refine sqP (i := 1) (N := some 22) (h := ?_)
     refine sqP (i := 2) (N := some 23) (h := ?_)
     refine sqP (i := 3) (N := some 24) (h := ?_)
     refine sqP (i := 4) (N := some 25) (h := ?_)
     refine sqP (i := 5) (N := some 26) (h := ?_)
     refine sqP (i := 6) (N := some 27) (h := ?_)
     refine one_ (i := 7) (N := none) #[true, true, true, true, true, true, true, true] rfl rfl (one_of HT_.out (by kernel_rfl)) (by decide) (fun K hK => ?_)
     have hs17 : w16.cell? ⟨gb272, 0, none⟩ = some (.int .i64 0) := (blk_cell BK272.out 0).trans rfl
     have hfs17 := blk_frozen BK272.out 0
     have hs18 : w16.cell? ⟨gb272, 1, none⟩ = some (.int .i64 0) := (blk_cell BK272.out 1).trans rfl
     have hfs18 := blk_frozen BK272.out 1
     refine skip_ (w1 := ?_) (by rfl) rfl ?_ ?_
     rotate_left
     ·go_simp
      rfl
     refine hK.out _ _ trivial (fun hHeld => ?_)
     clear hK K
     refine done_ (done_of HT_.out (by kernel_rfl)) ?_
     try go_wp2
     refine bodyPost_ret (results_cell_row rfl _ _ gb272 31 #[.int .i64 (wrap64 (Int.tdiv a0 (wrap64 (-t273)))), .int .i64 (wrap64 (Int.tdiv a1 (wrap64 (-t273))))] (0, 0) _ rfl (Z12 BK272) Tryz.underlying31 rfl (by kernel_rfl)) rfl ?_
     exact ⟨Z3, sqB1 HB GE272⟩
   ·rw [if_neg c12] at H
    have c12b0 : decide (a0 < 0) = false := decide_eq_false c12
    clear c12
    by_cases c19 : t273 = 0
    ·rw [if_pos c19] at H
     exact absurd H (by simp)
    ·rw [if_neg c19] at H
     have c19b0 : (t273 == 0) = false := beq_eq_false_iff_ne.mpr c19
     have c19b1 : (t273 != 0) = true := bne_iff_ne.mpr c19
     obtain ⟨rfl, rfl⟩ := sqO2 H
     go_enter Tryz.func120, Tryz.ntmps120
     try go_wp2_with (first | ((with_reducible refine gate_dst (N := 4) rfl ?_); refine sqBox (N := 4) (cs := #[.int .i64 0, .int .i64 0]) (t := 31) ?_; intro gb272 hg w20 BK272 hb; have GW272 := Aside0.mk ((sqG hg (sqB HB))); have GE272 := GW272; replace HB := sqS (sqB HB) hb; clear hb hg) | ((with_reducible refine gate_callee (f := 117) rfl ?_); refine goesL_ (some 8) rfl rfl Tryz.func117 (by kernel_rfl) rfl #[.int .i64 a0, .int .i64 a1] rfl sqA ?_; (with_reducible refine (impl_gcd.calls k a0 a1 t273 _ A3.out).mono ?_); rintro e w21 ⟨rfl, hb⟩; refine ⟨_, rfl, ?_⟩; replace BK272 := sqT BK272 hb; replace HB := sqS (sqB1 HB GE272) hb; (try clear hb)))
     replace BK272 := Aside0.mk (blk_drew BK272.out)
     replace HB := Aside0.mk (below_drew1 HB.out)
     refine start_ (n := 8) (S := fun w' => True) (ds := []) #[false, false, false, false, false, false, false, false] (by kernel_rfl) rfl rfl trivial (fun hHeld => ?_); refine with_tabW impl_lowest.tab4 impl_lowest.bits4 (fun HT_ HW_ => ?_)
     generalize w21.drew = w22 at BK272 HB hHeld ⊢
     refine sqP (i := 0) (N := some 21) (h := ?_)
     refine sqP (i := 1) (N := some 22) (h := ?_)
     refine sqP (i := 2) (N := some 23) (h := ?_)
     refine sqP (i := 3) (N := some 24) (h := ?_)
     refine sqP (i := 4) (N := some 25) (h := ?_)
     refine sqP (i := 5) (N := some 26) (h := ?_)
     refine sqP (i := 6) (N := some 27) (h := ?_)
     refine one_ (i := 7) (N := none) #[true, true, true, true, true, true, true, true] rfl rfl (one_of HT_.out (by kernel_rfl)) (by decide) (fun K hK => ?_)
     have hs23 : w22.cell? ⟨gb272, 0, none⟩ = some (.int .i64 0) := (blk_cell BK272.out 0).trans rfl
     have hfs23 := blk_frozen BK272.out 0
     have hs24 : w22.cell? ⟨gb272, 1, none⟩ = some (.int .i64 0) := (blk_cell BK272.out 1).trans rfl
     have hfs24 := blk_frozen BK272.out 1
     refine skip_ (w1 := ?_) (by rfl) rfl ?_ ?_
     rotate_left
     ·go_simp
      rfl
     refine hK.out _ _ trivial (fun hHeld => ?_)
     clear hK K
     refine done_ (done_of HT_.out (by kernel_rfl)) ?_
     try go_wp2
     refine bodyPost_ret (results_cell_row rfl _ _ gb272 31 #[.int .i64 (wrap64 (Int.tdiv a0 t273)), .int .i64 (wrap64 (Int.tdiv a1 t273))] (0, 0) _ rfl (Z13 BK272) Tryz.underlying31 rfl (by kernel_rfl)) rfl ?_
     exact ⟨Z3, sqB1 HB GE272⟩
  ·rw [if_neg c11] at H
   have c11b0 : (a1 == 0) = false := beq_eq_false_iff_ne.mpr c11
   have c11b1 : (a1 != 0) = true := bne_iff_ne.mpr c11
   by_cases c25 : t273 = 0
   ·rw [if_pos c25] at H
    exact absurd H (by simp)
   ·rw [if_neg c25] at H
    have c25b0 : (t273 == 0) = false := beq_eq_false_iff_ne.mpr c25
    have c25b1 : (t273 != 0) = true := bne_iff_ne.mpr c25
    obtain ⟨rfl, rfl⟩ := sqO2 H
    go_enter Tryz.func120, Tryz.ntmps120
    try go_wp2_with (first | ((with_reducible refine gate_dst (N := 4) rfl ?_); refine sqBox (N := 4) (cs := #[.int .i64 0, .int .i64 0]) (t := 31) ?_; intro gb272 hg w26 BK272 hb; have GW272 := Aside0.mk ((sqG hg (sqB HB))); have GE272 := GW272; replace HB := sqS (sqB HB) hb; clear hb hg) | ((with_reducible refine gate_callee (f := 117) rfl ?_); refine goesL_ (some 8) rfl rfl Tryz.func117 (by kernel_rfl) rfl #[.int .i64 a0, .int .i64 a1] rfl sqA ?_; (with_reducible refine (impl_gcd.calls k a0 a1 t273 _ A3.out).mono ?_); rintro e w27 ⟨rfl, hb⟩; refine ⟨_, rfl, ?_⟩; replace BK272 := sqT BK272 hb; replace HB := sqS (sqB1 HB GE272) hb; (try clear hb)))
    replace BK272 := Aside0.mk (blk_drew BK272.out)
    replace HB := Aside0.mk (below_drew1 HB.out)
    refine start_ (n := 8) (S := fun w' => True) (ds := []) #[false, false, false, false, false, false, false, false] (by kernel_rfl) rfl rfl trivial (fun hHeld => ?_); refine with_tabW impl_lowest.tab4 impl_lowest.bits4 (fun HT_ HW_ => ?_)
    generalize w27.drew = w28 at BK272 HB hHeld ⊢
    refine sqP (i := 0) (N := some 21) (h := ?_)
    refine sqP (i := 1) (N := some 22) (h := ?_)
    refine sqP (i := 2) (N := some 23) (h := ?_)
    refine sqP (i := 3) (N := some 24) (h := ?_)
    refine sqP (i := 4) (N := some 25) (h := ?_)
    refine sqP (i := 5) (N := some 26) (h := ?_)
    refine sqP (i := 6) (N := some 27) (h := ?_)
    refine one_ (i := 7) (N := none) #[true, true, true, true, true, true, true, true] rfl rfl (one_of HT_.out (by kernel_rfl)) (by decide) (fun K hK => ?_)
    have hs29 : w28.cell? ⟨gb272, 0, none⟩ = some (.int .i64 0) := (blk_cell BK272.out 0).trans rfl
    have hfs29 := blk_frozen BK272.out 0
    have hs30 : w28.cell? ⟨gb272, 1, none⟩ = some (.int .i64 0) := (blk_cell BK272.out 1).trans rfl
    have hfs30 := blk_frozen BK272.out 1
    refine skip_ (w1 := ?_) (by rfl) rfl ?_ ?_
    rotate_left
    ·go_simp
     rfl
    refine hK.out _ _ trivial (fun hHeld => ?_)
    clear hK K
    refine done_ (done_of HT_.out (by kernel_rfl)) ?_
    try go_wp2
    refine bodyPost_ret (results_cell_row rfl _ _ gb272 31 #[.int .i64 (wrap64 (Int.tdiv a0 t273)), .int .i64 (wrap64 (Int.tdiv a1 t273))] (0, 0) _ rfl (Z13 BK272) Tryz.underlying31 rfl (by kernel_rfl)) rfl ?_
    exact ⟨Z3, sqB1 HB GE272⟩

/-! ### impl_danced: function 72 -/
def impl_danced.l0 : Nat → ByteArray → Int → Int → Int → Int → Option (Int × Int × Bool)
 | 0, _, _, _, _, _ => none
 | k + 1, x1, x9, x10, x275000, x275001 => if x10 < x9 then (if 0 ≤ x10 then (if x10 < (x1.size : Int) then (if (bt x1 x10) = 84 then ((impl_plus.f k x275000 x275001 1).bind fun bt276 => (if bt276.2.2 = true then (impl_danced.l0 k x1 x9 (wrap64 (x10 + 1)) bt276.1 bt276.2.1) else (some (0, 0, false)))) else (if (bt x1 x10) = 116 then ((impl_plus.f k x275000 x275001 (-1)).bind fun bt279 => (if bt279.2.2 = true then (impl_danced.l0 k x1 x9 (wrap64 (x10 + 1)) bt279.1 bt279.2.1) else (some (0, 0, false)))) else ((impl_lowest.f k (wrap64 (-x275001)) x275000).bind fun bt282 => (impl_danced.l0 k x1 x9 (wrap64 (x10 + 1)) bt282.1 bt282.2)))) else (none)) else (none)) else (some (x275000, x275001, true))
def impl_danced.f (k : Nat) (a0_0 : Int) (a0_1 : Int) (a1 : ByteArray) : Option (Int × Int × Bool) := impl_danced.l0 k a1 (a1.size : Int) 0 a0_0 a0_1
theorem impl_danced.mono_l : ∀ k, (∀ y0 y1 y2 y3 y4, LeO (impl_danced.l0 k y0 y1 y2 y3 y4) (impl_danced.l0 (k + 1) y0 y1 y2 y3 y4))
 | 0 => fun _ _ _ _ _ r h => by simp [impl_danced.l0] at h
 | k + 1 => by
  have ih0 := impl_danced.mono_l k
  ·intro y0 y1 y2 y3 y4
   unfold impl_danced.l0
   repeat' first
   | (with_reducible exact ih0 _ _ _ _ _)
   | (with_reducible exact impl_lowest.mono _ _ _)
   | (with_reducible exact impl_plus.mono _ _ _ _)
   | (with_reducible exact LeO.refl _)
   | (with_reducible exact LeO.none _)
   | (with_reducible refine LeO.ite ?_ ?_)
   | (with_reducible refine LeO.bind ?_ (fun _ => ?_))
theorem impl_danced.mono : ∀ a0 a1 a2 k, LeO (impl_danced.f k a0 a1 a2) (impl_danced.f (k + 1) a0 a1 a2) := by
 intro a0 a1 a2 k
 have ih0 := impl_danced.mono_l k
 unfold impl_danced.f
 repeat' first
   | (with_reducible exact ih0 _ _ _ _ _)
   | (with_reducible exact impl_lowest.mono _ _ _)
   | (with_reducible exact impl_plus.mono _ _ _ _)
   | (with_reducible exact LeO.refl _)
   | (with_reducible exact LeO.none _)
   | (with_reducible refine LeO.ite ?_ ?_)
   | (with_reducible refine LeO.bind ?_ (fun _ => ?_))
set_option maxHeartbeats 8000000 in
set_option maxRecDepth 100000 in
theorem impl_danced.calls (k : Nat) (a0_0 : Int) (a0_1 : Int) (a1 : ByteArray) (r1 : Int) (r2 : Int) (r3 : Bool) (w : World) (h : impl_danced.f k a0_0 a0_1 a1 = some (r1, r2, r3)) :
  Calls Tryz.prog 72 #[.agg #[.int .i64 a0_0, .int .i64 a0_1], .string a1] w fun e w' => e = .returned (.tuple #[.agg #[.int .i64 r1, .int .i64 r2], .bool r3]) ∧ Below w.heap.size w w' := by
 have hu31 := Tryz.underlying31
 have HB := Aside0.mk (Below.refl w.heap.size w)
 have H : (impl_danced.l0 k a1 (a1.size : Int) 0 a0_0 a0_1) = some (r1, r2, r3) := h
 clear h
 have H' := Aside0.mk H
 clear H
 go_enter Tryz.func72, Tryz.ntmps72
 go_wp2_with (first | ((with_reducible refine gate_dst (N := 2) rfl ?_); refine sqBox (N := 2) (cs := #[.int .i64 a0_0, .int .i64 a0_1]) (t := 31) ?_; intro gb274 hg w3 BK274 hb; have GW274 := Aside0.mk ((sqG hg (sqB HB))); have GE274 := GW274; replace HB := sqS (sqB HB) hb; clear hb hg) | ((with_reducible refine gate_dst (N := 4) rfl ?_); refine sqBox (N := 4) (cs := #[.int .i64 0, .int .i64 0]) (t := 31) ?_; intro gb275 hg w4 BK275 hb; have GW275 := Aside0.mk ((sqG hg (sqB1 HB GE274))); have GE275 := GW275; replace HB := sqS (sqB1 HB GE274) hb; obtain ⟨NB274_275, NB275_274⟩ := sqM hg BK274; replace BK274 := sqT BK274 hb; clear hb hg))
 go_loopg [10] k (fun kq v10 w' => ∃ (x10_1 : Int) (x275000_1 : Int) (x275001_1 : Int) (x276000_1 : Int) (x276001_1 : Int), v10 = .int .i64 x10_1 ∧ Aside0 (impl_danced.l0 kq a1 (a1.size : Int) x10_1 x275000_1 x275001_1 = some (r1, r2, r3)) ∧ Aside0 (kq ≤ k) ∧ Aside0 (w'.heap[gb274]? = some (.cells #[.int .i64 x275000_1, .int .i64 x275001_1] 31 (0, 0))) ∧ Aside0 (w'.heap[gb275]? = some (.cells #[.int .i64 x276000_1, .int .i64 x276001_1] 31 (0, 0))) ∧ Aside0 (Below w.heap.size w w'))
 case atStart => exact ⟨(0), (a0_0), (a0_1), (0), (0), Z1, H', ⟨Nat.le_refl _⟩, ⟨sqK BK274⟩, ⟨sqK BK275⟩, ⟨sqB2 HB GE274 GE275⟩⟩
 case round =>
  clear H'
  try clear p2
  obtain ⟨x10_1, x275000_1, x275001_1, x276000_1, x276001_1, rfl, HA, HK1, BK274, BK275, HB⟩ := hrel
  cases gk with
  | zero => exact absurd HA.out (by simp [impl_danced.l0])
  | succ k1 =>
   have H := HA.out
   clear HA
   simp only [impl_danced.l0] at H
   by_cases c5 : x10_1 < (a1.size : Int)
   ·rw [if_pos c5] at H
    have c5b0 : decide (x10_1 < (a1.size : Int)) = true := decide_eq_true c5
    clear c5
    obtain ⟨c6, H⟩ := sqI H
    have c6b0 : decide (0 ≤ x10_1) = true := decide_eq_true c6
    clear c6
    obtain ⟨c7, H⟩ := sqI H
    have c7b0 : decide (x10_1 < (a1.size : Int)) = true := decide_eq_true c7
    clear c7
    by_cases c9 : (bt a1 x10_1) = 84
    ·rw [if_pos c9] at H
     have c9b0 : ((bt a1 x10_1) == 84) = true := beq_iff_eq.mpr c9
     have c9b1 : ((bt a1 x10_1) != 84) = false := bne_eq_false_iff_eq.mpr c9
     clear c9
     obtain ⟨⟨t276, t277, t278⟩, A10, H⟩ := sqD H
     try dsimp only at H
     by_cases c11 : t278 = true
     ·subst c11
      rw [if_pos rfl] at H
      have H' := Aside0.mk H
      clear H
      have p8 : 0 ≤ (x10_1 : Int) := of_decide_eq_true Z2
      have q8 : x10_1 < (a1.size : Int) := of_decide_eq_true Z2
      have hx8 := bt_at a1 x10_1
      replace p8 := eq_true p8
      replace q8 := eq_true q8
      have hnb12 := NB274_275.out
      have hnc12 := NB275_274.out
      obtain ⟨hcz13_0, hcz13_1, hfz13_0, hfz13_1⟩ := sqY2 BK274
      go_wp2_with (first | ((with_reducible refine gate_callee (f := 119) rfl ?_); refine goesL_ (some 26) rfl rfl Tryz.func119 (by kernel_rfl) rfl #[.agg #[.int .i64 x275000_1, .int .i64 x275001_1], .int .i64 1] rfl sqA ?_; (with_reducible refine (impl_plus.calls k1 x275000_1 x275001_1 1 t276 t277 true _ A10.out).mono ?_); rintro e w14 ⟨rfl, hb⟩; refine ⟨_, rfl, ?_⟩; replace BK274 := sqT BK274 hb; replace BK275 := sqT BK275 hb; replace HB := sqS (sqB2 HB GE274 GE275) hb; (try clear hb); obtain ⟨hcz15_0, hcz15_1, hfz15_0, hfz15_1⟩ := sqY2 BK274))
      go_roundg k1
      case measure => have := HK1.out; omega
      case rel => exact ⟨(wrap64 (x10_1 + 1)), (t276), (t277), (x276000_1), (x276001_1), Z1, H', ⟨Z4 HK1⟩, ⟨by refine sqPut (cs := #[.int .i64 t276, .int .i64 x275001_1]) ?_ 1; refine sqPut (cs := #[.int .i64 x275000_1, .int .i64 x275001_1]) ?_ 0; exact sqK BK274⟩, ⟨Z14 NB275_274 BK275⟩, ⟨sqB2 HB GE274 GE275⟩⟩
     ·replace c11 := Bool.eq_false_iff.mpr c11
      subst c11
      rw [if_neg sqF] at H
      obtain ⟨rfl, rfl, rfl⟩ := sqO3 H
      have p8 : 0 ≤ (x10_1 : Int) := of_decide_eq_true Z2
      have q8 : x10_1 < (a1.size : Int) := of_decide_eq_true Z2
      have hx8 := bt_at a1 x10_1
      replace p8 := eq_true p8
      replace q8 := eq_true q8
      have hnb16 := NB274_275.out
      have hnc16 := NB275_274.out
      obtain ⟨hcz17_0, hcz17_1, hfz17_0, hfz17_1⟩ := sqY2 BK274
      go_wp2_with (first | ((with_reducible refine gate_callee (f := 119) rfl ?_); refine goesL_ (some 26) rfl rfl Tryz.func119 (by kernel_rfl) rfl #[.agg #[.int .i64 x275000_1, .int .i64 x275001_1], .int .i64 1] rfl sqA ?_; (with_reducible refine (impl_plus.calls k1 x275000_1 x275001_1 1 t276 t277 false _ A10.out).mono ?_); rintro e w18 ⟨rfl, hb⟩; refine ⟨_, rfl, ?_⟩; replace BK274 := sqT BK274 hb; replace BK275 := sqT BK275 hb; replace HB := sqS (sqB2 HB GE274 GE275) hb; (try clear hb); obtain ⟨hcz19_0, hcz19_1, hfz19_0, hfz19_1⟩ := sqY2 BK274; obtain ⟨hcz20_0, hcz20_1, hfz20_0, hfz20_1⟩ := sqY2 BK275))
      refine bodyPost_ret (results_ct rfl _ _ gb275 31 #[.int .i64 0, .int .i64 0] (0, 0) _ rfl (Z15 NB275_274 BK275) Tryz.underlying31 rfl (by kernel_rfl)) rfl ?_
      exact ⟨Z3, sqB2 HB GE274 GE275⟩
    ·rw [if_neg c9] at H
     have c9b0 : ((bt a1 x10_1) == 84) = false := beq_eq_false_iff_ne.mpr c9
     have c9b1 : ((bt a1 x10_1) != 84) = true := bne_iff_ne.mpr c9
     by_cases c21 : (bt a1 x10_1) = 116
     ·rw [if_pos c21] at H
      have c21b0 : ((bt a1 x10_1) == 116) = true := beq_iff_eq.mpr c21
      have c21b1 : ((bt a1 x10_1) != 116) = false := bne_eq_false_iff_eq.mpr c21
      clear c21
      obtain ⟨⟨t279, t280, t281⟩, A22, H⟩ := sqD H
      try dsimp only at H
      by_cases c23 : t281 = true
      ·subst c23
       rw [if_pos rfl] at H
       have H' := Aside0.mk H
       clear H
       have p8 : 0 ≤ (x10_1 : Int) := of_decide_eq_true Z2
       have q8 : x10_1 < (a1.size : Int) := of_decide_eq_true Z2
       have hx8 := bt_at a1 x10_1
       replace p8 := eq_true p8
       replace q8 := eq_true q8
       have hnb24 := NB274_275.out
       have hnc24 := NB275_274.out
       obtain ⟨hcz25_0, hcz25_1, hfz25_0, hfz25_1⟩ := sqY2 BK274
       go_wp2_with (first | ((with_reducible refine gate_callee (f := 119) rfl ?_); refine goesL_ (some 33) rfl rfl Tryz.func119 (by kernel_rfl) rfl #[.agg #[.int .i64 x275000_1, .int .i64 x275001_1], .int .i64 (-1)] rfl sqA ?_; (with_reducible refine (impl_plus.calls k1 x275000_1 x275001_1 (-1) t279 t280 true _ A22.out).mono ?_); rintro e w26 ⟨rfl, hb⟩; refine ⟨_, rfl, ?_⟩; replace BK274 := sqT BK274 hb; replace BK275 := sqT BK275 hb; replace HB := sqS (sqB2 HB GE274 GE275) hb; (try clear hb); obtain ⟨hcz27_0, hcz27_1, hfz27_0, hfz27_1⟩ := sqY2 BK274))
       go_roundg k1
       case measure => have := HK1.out; omega
       case rel => exact ⟨(wrap64 (x10_1 + 1)), (t279), (t280), (x276000_1), (x276001_1), Z1, H', ⟨Z4 HK1⟩, ⟨by refine sqPut (cs := #[.int .i64 t279, .int .i64 x275001_1]) ?_ 1; refine sqPut (cs := #[.int .i64 x275000_1, .int .i64 x275001_1]) ?_ 0; exact sqK BK274⟩, ⟨Z14 NB275_274 BK275⟩, ⟨sqB2 HB GE274 GE275⟩⟩
      ·replace c23 := Bool.eq_false_iff.mpr c23
       subst c23
       rw [if_neg sqF] at H
       obtain ⟨rfl, rfl, rfl⟩ := sqO3 H
       have p8 : 0 ≤ (x10_1 : Int) := of_decide_eq_true Z2
       have q8 : x10_1 < (a1.size : Int) := of_decide_eq_true Z2
       have hx8 := bt_at a1 x10_1
       replace p8 := eq_true p8
       replace q8 := eq_true q8
       have hnb28 := NB274_275.out
       have hnc28 := NB275_274.out
       obtain ⟨hcz29_0, hcz29_1, hfz29_0, hfz29_1⟩ := sqY2 BK274
       go_wp2_with (first | ((with_reducible refine gate_callee (f := 119) rfl ?_); refine goesL_ (some 33) rfl rfl Tryz.func119 (by kernel_rfl) rfl #[.agg #[.int .i64 x275000_1, .int .i64 x275001_1], .int .i64 (-1)] rfl sqA ?_; (with_reducible refine (impl_plus.calls k1 x275000_1 x275001_1 (-1) t279 t280 false _ A22.out).mono ?_); rintro e w30 ⟨rfl, hb⟩; refine ⟨_, rfl, ?_⟩; replace BK274 := sqT BK274 hb; replace BK275 := sqT BK275 hb; replace HB := sqS (sqB2 HB GE274 GE275) hb; (try clear hb); obtain ⟨hcz31_0, hcz31_1, hfz31_0, hfz31_1⟩ := sqY2 BK274; obtain ⟨hcz32_0, hcz32_1, hfz32_0, hfz32_1⟩ := sqY2 BK275))
       refine bodyPost_ret (results_ct rfl _ _ gb275 31 #[.int .i64 0, .int .i64 0] (0, 0) _ rfl (Z15 NB275_274 BK275) Tryz.underlying31 rfl (by kernel_rfl)) rfl ?_
       exact ⟨Z3, sqB2 HB GE274 GE275⟩
     ·rw [if_neg c21] at H
      have c21b0 : ((bt a1 x10_1) == 116) = false := beq_eq_false_iff_ne.mpr c21
      have c21b1 : ((bt a1 x10_1) != 116) = true := bne_iff_ne.mpr c21
      obtain ⟨⟨t282, t283⟩, A33, H⟩ := sqD H
      try dsimp only at H
      have H' := Aside0.mk H
      clear H
      have p8 : 0 ≤ (x10_1 : Int) := of_decide_eq_true Z2
      have q8 : x10_1 < (a1.size : Int) := of_decide_eq_true Z2
      have hx8 := bt_at a1 x10_1
      replace p8 := eq_true p8
      replace q8 := eq_true q8
      have hnb34 := NB274_275.out
      have hnc34 := NB275_274.out
      obtain ⟨hcz35_0, hcz35_1, hfz35_0, hfz35_1⟩ := sqY2 BK274
      go_wp2_with (first | ((with_reducible refine gate_callee (f := 120) rfl ?_); refine goesL_ (some 21) rfl rfl Tryz.func120 (by kernel_rfl) rfl #[.int .i64 (wrap64 (-x275001_1)), .int .i64 x275000_1] rfl sqA ?_; (with_reducible refine (impl_lowest.calls k1 (wrap64 (-x275001_1)) x275000_1 t282 t283 _ A33.out).mono ?_); rintro e w36 ⟨rfl, hb⟩; refine ⟨_, rfl, ?_⟩; replace BK274 := sqT BK274 hb; replace BK275 := sqT BK275 hb; replace HB := sqS (sqB2 HB GE274 GE275) hb; (try clear hb); obtain ⟨hcz37_0, hcz37_1, hfz37_0, hfz37_1⟩ := sqY2 BK274))
      go_roundg k1
      case measure => have := HK1.out; omega
      case rel => exact ⟨(wrap64 (x10_1 + 1)), (t282), (t283), (x276000_1), (x276001_1), Z1, H', ⟨Z4 HK1⟩, ⟨by refine sqPut (cs := #[.int .i64 t282, .int .i64 x275001_1]) ?_ 1; refine sqPut (cs := #[.int .i64 x275000_1, .int .i64 x275001_1]) ?_ 0; exact sqK BK274⟩, ⟨Z14 NB275_274 BK275⟩, ⟨sqB2 HB GE274 GE275⟩⟩
   ·rw [if_neg c5] at H
    have c5b0 : decide (x10_1 < (a1.size : Int)) = false := decide_eq_false c5
    clear c5
    obtain ⟨rfl, rfl, rfl⟩ := sqO3 H
    have hnb38 := NB274_275.out
    have hnc38 := NB275_274.out
    obtain ⟨hcz39_0, hcz39_1, hfz39_0, hfz39_1⟩ := sqY2 BK274
    obtain ⟨hcz40_0, hcz40_1, hfz40_0, hfz40_1⟩ := sqY2 BK275
    go_wp2
    refine bodyPost_ret (results_ct rfl _ _ gb275 31 #[.int .i64 x275000_1, .int .i64 x275001_1] (0, 0) _ rfl (by refine sqPut (cs := #[.int .i64 x275000_1, .int .i64 x276001_1]) ?_ 1; refine sqPut (cs := #[.int .i64 x276000_1, .int .i64 x276001_1]) ?_ 0; exact sqK BK275) Tryz.underlying31 rfl (by kernel_rfl)) rfl ?_
    exact ⟨Z3, sqB2 HB GE274 GE275⟩

/-! ### impl_DancedFrom: function 25 -/
def impl_DancedFrom.f (k : Nat) (a0_0 : Int) (a0_1 : Int) (a1 : ByteArray) : Option (Int × Int × Bool) := (impl_isFraction.f k a0_0 a0_1).bind fun t286 => (if t286 = true then ((impl_isDance.f a1).bind fun t287 => (if t287 = true then ((impl_danced.f k a0_0 a0_1 a1).bind fun bt288 => (some (bt288.1, bt288.2.1, bt288.2.2))) else (some (0, 0, false)))) else (some (0, 0, false)))
theorem impl_DancedFrom.mono : ∀ a0 a1 a2 k, LeO (impl_DancedFrom.f k a0 a1 a2) (impl_DancedFrom.f (k + 1) a0 a1 a2) := by
 intro a0 a1 a2 k
 unfold impl_DancedFrom.f
 repeat' first
   | (with_reducible exact impl_danced.mono _ _ _ _)
   | (with_reducible exact impl_isFraction.mono _ _ _)
   | (with_reducible exact LeO.refl _)
   | (with_reducible exact LeO.none _)
   | (with_reducible refine LeO.ite ?_ ?_)
   | (with_reducible refine LeO.bind ?_ (fun _ => ?_))
set_option maxHeartbeats 8000000 in
set_option maxRecDepth 100000 in
theorem impl_DancedFrom.calls (k : Nat) (a0_0 : Int) (a0_1 : Int) (a1 : ByteArray) (r1 : Int) (r2 : Int) (r3 : Bool) (w : World) (h : impl_DancedFrom.f k a0_0 a0_1 a1 = some (r1, r2, r3)) :
  Calls Tryz.prog 25 #[.agg #[.int .i64 a0_0, .int .i64 a0_1], .string a1] w fun e w' => e = .returned (.tuple #[.agg #[.int .i64 r1, .int .i64 r2], .bool r3]) ∧ Below w.heap.size w w' := by
 have hu31 := Tryz.underlying31
 have HB := Aside0.mk (Below.refl w.heap.size w)
 have H : ((impl_isFraction.f k a0_0 a0_1).bind fun t286 => (if t286 = true then ((impl_isDance.f a1).bind fun t287 => (if t287 = true then ((impl_danced.f k a0_0 a0_1 a1).bind fun bt288 => (some (bt288.1, bt288.2.1, bt288.2.2))) else (some (0, 0, false)))) else (some (0, 0, false)))) = some (r1, r2, r3) := h
 clear h
 obtain ⟨t286, A3, H⟩ := sqD H
 by_cases c4 : t286 = true
 ·subst c4
  rw [if_pos rfl] at H
  obtain ⟨t287, A5, H⟩ := sqD H
  by_cases c6 : t287 = true
  ·subst c6
   rw [if_pos rfl] at H
   obtain ⟨⟨t288, t289, t290⟩, A7, H⟩ := sqD H
   try dsimp only at H
   obtain ⟨rfl, rfl, rfl⟩ := sqO3 H
   go_enter Tryz.func25, Tryz.ntmps25
   go_wp2_with (first | ((with_reducible refine gate_dst (N := 2) rfl ?_); refine sqBox (N := 2) (cs := #[.int .i64 a0_0, .int .i64 a0_1]) (t := 31) ?_; intro gb284 hg w8 BK284 hb; have GW284 := Aside0.mk ((sqG hg (sqB HB))); have GE284 := GW284; replace HB := sqS (sqB HB) hb; clear hb hg) | ((with_reducible refine gate_dst (N := 4) rfl ?_); refine sqBox (N := 4) (cs := #[.int .i64 0, .int .i64 0]) (t := 31) ?_; intro gb285 hg w9 BK285 hb; have GW285 := Aside0.mk ((sqG hg (sqB1 HB GE284))); have GE285 := GW285; replace HB := sqS (sqB1 HB GE284) hb; obtain ⟨NB284_285, NB285_284⟩ := sqM hg BK284; replace BK284 := sqT BK284 hb; clear hb hg; have hnb10 := NB284_285.out; have hnc10 := NB285_284.out; obtain ⟨hcz11_0, hcz11_1, hfz11_0, hfz11_1⟩ := sqY2 BK284) | ((with_reducible refine gate_callee (f := 70) rfl ?_); refine goesL_ (some 7) rfl rfl Tryz.func70 (by kernel_rfl) rfl #[.agg #[.int .i64 a0_0, .int .i64 a0_1]] rfl sqA ?_; (with_reducible refine (impl_isFraction.calls k a0_0 a0_1 true _ A3.out).mono ?_); rintro e w12 ⟨rfl, hb⟩; refine ⟨_, rfl, ?_⟩; replace BK284 := sqT BK284 hb; replace BK285 := sqT BK285 hb; replace HB := sqS (sqB2 HB GE284 GE285) hb; (try clear hb)) | (go_at_call 71; (with_reducible refine (impl_isDance.calls a1 true _ A5.out).mono ?_); rintro e w13 ⟨rfl, hb⟩; replace BK284 := sqT BK284 hb; replace BK285 := sqT BK285 hb; replace HB := sqS (sqB2 HB GE284 GE285) hb; (try clear hb); obtain ⟨hcz14_0, hcz14_1, hfz14_0, hfz14_1⟩ := sqY2 BK284) | ((with_reducible refine gate_callee (f := 72) rfl ?_); refine goesL_ (some 17) rfl rfl Tryz.func72 (by kernel_rfl) rfl #[.agg #[.int .i64 a0_0, .int .i64 a0_1], .string a1] rfl sqA ?_; (with_reducible refine (impl_danced.calls k a0_0 a0_1 a1 t288 t289 t290 _ A7.out).mono ?_); rintro e w15 ⟨rfl, hb⟩; refine ⟨_, rfl, ?_⟩; replace BK284 := sqT BK284 hb; replace BK285 := sqT BK285 hb; replace HB := sqS (sqB2 HB GE284 GE285) hb; (try clear hb); obtain ⟨hcz16_0, hcz16_1, hfz16_0, hfz16_1⟩ := sqY2 BK285))
   refine bodyPost_ret (results_ct rfl _ _ gb285 31 #[.int .i64 t288, .int .i64 t289] (0, 0) _ rfl (by refine sqPut (cs := #[.int .i64 t288, .int .i64 0]) ?_ 1; refine sqPut (cs := #[.int .i64 0, .int .i64 0]) ?_ 0; exact sqK BK285) Tryz.underlying31 rfl (by kernel_rfl)) rfl ?_
   exact ⟨Z3, sqB2 HB GE284 GE285⟩
  ·replace c6 := Bool.eq_false_iff.mpr c6
   subst c6
   rw [if_neg sqF] at H
   obtain ⟨rfl, rfl, rfl⟩ := sqO3 H
   go_enter Tryz.func25, Tryz.ntmps25
   go_wp2_with (first | ((with_reducible refine gate_dst (N := 2) rfl ?_); refine sqBox (N := 2) (cs := #[.int .i64 a0_0, .int .i64 a0_1]) (t := 31) ?_; intro gb284 hg w17 BK284 hb; have GW284 := Aside0.mk ((sqG hg (sqB HB))); have GE284 := GW284; replace HB := sqS (sqB HB) hb; clear hb hg) | ((with_reducible refine gate_dst (N := 4) rfl ?_); refine sqBox (N := 4) (cs := #[.int .i64 0, .int .i64 0]) (t := 31) ?_; intro gb285 hg w18 BK285 hb; have GW285 := Aside0.mk ((sqG hg (sqB1 HB GE284))); have GE285 := GW285; replace HB := sqS (sqB1 HB GE284) hb; obtain ⟨NB284_285, NB285_284⟩ := sqM hg BK284; replace BK284 := sqT BK284 hb; clear hb hg; have hnb19 := NB284_285.out; have hnc19 := NB285_284.out; obtain ⟨hcz20_0, hcz20_1, hfz20_0, hfz20_1⟩ := sqY2 BK284) | ((with_reducible refine gate_callee (f := 70) rfl ?_); refine goesL_ (some 7) rfl rfl Tryz.func70 (by kernel_rfl) rfl #[.agg #[.int .i64 a0_0, .int .i64 a0_1]] rfl sqA ?_; (with_reducible refine (impl_isFraction.calls k a0_0 a0_1 true _ A3.out).mono ?_); rintro e w21 ⟨rfl, hb⟩; refine ⟨_, rfl, ?_⟩; replace BK284 := sqT BK284 hb; replace BK285 := sqT BK285 hb; replace HB := sqS (sqB2 HB GE284 GE285) hb; (try clear hb)) | (go_at_call 71; (with_reducible refine (impl_isDance.calls a1 false _ A5.out).mono ?_); rintro e w22 ⟨rfl, hb⟩; replace BK284 := sqT BK284 hb; replace BK285 := sqT BK285 hb; replace HB := sqS (sqB2 HB GE284 GE285) hb; (try clear hb); obtain ⟨hcz23_0, hcz23_1, hfz23_0, hfz23_1⟩ := sqY2 BK285))
   refine bodyPost_ret (results_ct rfl _ _ gb285 31 #[.int .i64 0, .int .i64 0] (0, 0) _ rfl (Z11 BK285) Tryz.underlying31 rfl (by kernel_rfl)) rfl ?_
   exact ⟨Z3, sqB2 HB GE284 GE285⟩
 ·replace c4 := Bool.eq_false_iff.mpr c4
  subst c4
  rw [if_neg sqF] at H
  obtain ⟨rfl, rfl, rfl⟩ := sqO3 H
  go_enter Tryz.func25, Tryz.ntmps25
  go_wp2_with (first | ((with_reducible refine gate_dst (N := 2) rfl ?_); refine sqBox (N := 2) (cs := #[.int .i64 a0_0, .int .i64 a0_1]) (t := 31) ?_; intro gb284 hg w24 BK284 hb; have GW284 := Aside0.mk ((sqG hg (sqB HB))); have GE284 := GW284; replace HB := sqS (sqB HB) hb; clear hb hg) | ((with_reducible refine gate_dst (N := 4) rfl ?_); refine sqBox (N := 4) (cs := #[.int .i64 0, .int .i64 0]) (t := 31) ?_; intro gb285 hg w25 BK285 hb; have GW285 := Aside0.mk ((sqG hg (sqB1 HB GE284))); have GE285 := GW285; replace HB := sqS (sqB1 HB GE284) hb; obtain ⟨NB284_285, NB285_284⟩ := sqM hg BK284; replace BK284 := sqT BK284 hb; clear hb hg; have hnb26 := NB284_285.out; have hnc26 := NB285_284.out; obtain ⟨hcz27_0, hcz27_1, hfz27_0, hfz27_1⟩ := sqY2 BK284) | ((with_reducible refine gate_callee (f := 70) rfl ?_); refine goesL_ (some 7) rfl rfl Tryz.func70 (by kernel_rfl) rfl #[.agg #[.int .i64 a0_0, .int .i64 a0_1]] rfl sqA ?_; (with_reducible refine (impl_isFraction.calls k a0_0 a0_1 false _ A3.out).mono ?_); rintro e w28 ⟨rfl, hb⟩; refine ⟨_, rfl, ?_⟩; replace BK284 := sqT BK284 hb; replace BK285 := sqT BK285 hb; replace HB := sqS (sqB2 HB GE284 GE285) hb; (try clear hb); obtain ⟨hcz29_0, hcz29_1, hfz29_0, hfz29_1⟩ := sqY2 BK285))
  refine bodyPost_ret (results_ct rfl _ _ gb285 31 #[.int .i64 0, .int .i64 0] (0, 0) _ rfl (Z11 BK285) Tryz.underlying31 rfl (by kernel_rfl)) rfl ?_
  exact ⟨Z3, sqB2 HB GE284 GE285⟩

/-! ### impl_isSmall: function 104 -/
def impl_isSmall.f (k : Nat) (a0_0 : Int) (a0_1 : Int) (a1 : Int) : Option (Bool) := (impl_isFraction.f k a0_0 a0_1).bind fun t292 => (if t292 = true then (if a0_0 ≥ (wrap64 (-a1)) then (if a0_0 ≤ a1 then (some (decide (a0_1 ≤ a1))) else (some false)) else (some false)) else (some false))
theorem impl_isSmall.mono : ∀ a0 a1 a2 k, LeO (impl_isSmall.f k a0 a1 a2) (impl_isSmall.f (k + 1) a0 a1 a2) := by
 intro a0 a1 a2 k
 unfold impl_isSmall.f
 repeat' first
   | (with_reducible exact impl_isFraction.mono _ _ _)
   | (with_reducible exact LeO.refl _)
   | (with_reducible exact LeO.none _)
   | (with_reducible refine LeO.ite ?_ ?_)
   | (with_reducible refine LeO.bind ?_ (fun _ => ?_))
set_option maxHeartbeats 8000000 in
set_option maxRecDepth 100000 in
theorem impl_isSmall.calls (k : Nat) (a0_0 : Int) (a0_1 : Int) (a1 : Int) (r : Bool) (w : World) (h : impl_isSmall.f k a0_0 a0_1 a1 = some r) :
  Calls Tryz.prog 104 #[.agg #[.int .i64 a0_0, .int .i64 a0_1], .int .i64 a1] w fun e w' => e = .returned (.bool r) ∧ Below w.heap.size w w' := by
 have hu31 := Tryz.underlying31
 have HB := Aside0.mk (Below.refl w.heap.size w)
 have H : ((impl_isFraction.f k a0_0 a0_1).bind fun t292 => (if t292 = true then (if a0_0 ≥ (wrap64 (-a1)) then (if a0_0 ≤ a1 then (some (decide (a0_1 ≤ a1))) else (some false)) else (some false)) else (some false))) = some r := h
 clear h
 obtain ⟨t292, A3, H⟩ := sqD H
 by_cases c4 : t292 = true
 ·subst c4
  rw [if_pos rfl] at H
  by_cases c5 : a0_0 ≥ (wrap64 (-a1))
  ·rw [if_pos c5] at H
   have c5b0 : decide ((wrap64 (-a1)) ≤ a0_0) = true := decide_eq_true c5
   clear c5
   by_cases c6 : a0_0 ≤ a1
   ·rw [if_pos c6] at H
    have c6b0 : decide (a0_0 ≤ a1) = true := decide_eq_true c6
    clear c6
    obtain rfl := Option.some.inj H
    go_enter Tryz.func104, Tryz.ntmps104
    go_wp2_with (first | ((with_reducible refine gate_dst (N := 2) rfl ?_); refine sqBox (N := 2) (cs := #[.int .i64 a0_0, .int .i64 a0_1]) (t := 31) ?_; intro gb291 hg w7 BK291 hb; have GW291 := Aside0.mk ((sqG hg (sqB HB))); have GE291 := GW291; replace HB := sqS (sqB HB) hb; clear hb hg; obtain ⟨hcz8_0, hcz8_1, hfz8_0, hfz8_1⟩ := sqY2 BK291) | ((with_reducible refine gate_callee (f := 70) rfl ?_); refine goesL_ (some 6) rfl rfl Tryz.func70 (by kernel_rfl) rfl #[.agg #[.int .i64 a0_0, .int .i64 a0_1]] rfl sqA ?_; (with_reducible refine (impl_isFraction.calls k a0_0 a0_1 true _ A3.out).mono ?_); rintro e w9 ⟨rfl, hb⟩; refine ⟨_, rfl, ?_⟩; replace BK291 := sqT BK291 hb; replace HB := sqS (sqB1 HB GE291) hb; (try clear hb); obtain ⟨hcz10_0, hcz10_1, hfz10_0, hfz10_1⟩ := sqY2 BK291))
    go_ret
    exact ⟨Z3, sqB1 HB GE291⟩
   ·rw [if_neg c6] at H
    have c6b0 : decide (a0_0 ≤ a1) = false := decide_eq_false c6
    clear c6
    obtain rfl := Option.some.inj H
    go_enter Tryz.func104, Tryz.ntmps104
    go_wp2_with (first | ((with_reducible refine gate_dst (N := 2) rfl ?_); refine sqBox (N := 2) (cs := #[.int .i64 a0_0, .int .i64 a0_1]) (t := 31) ?_; intro gb291 hg w11 BK291 hb; have GW291 := Aside0.mk ((sqG hg (sqB HB))); have GE291 := GW291; replace HB := sqS (sqB HB) hb; clear hb hg; obtain ⟨hcz12_0, hcz12_1, hfz12_0, hfz12_1⟩ := sqY2 BK291) | ((with_reducible refine gate_callee (f := 70) rfl ?_); refine goesL_ (some 6) rfl rfl Tryz.func70 (by kernel_rfl) rfl #[.agg #[.int .i64 a0_0, .int .i64 a0_1]] rfl sqA ?_; (with_reducible refine (impl_isFraction.calls k a0_0 a0_1 true _ A3.out).mono ?_); rintro e w13 ⟨rfl, hb⟩; refine ⟨_, rfl, ?_⟩; replace BK291 := sqT BK291 hb; replace HB := sqS (sqB1 HB GE291) hb; (try clear hb); obtain ⟨hcz14_0, hcz14_1, hfz14_0, hfz14_1⟩ := sqY2 BK291))
    go_ret
    exact ⟨Z3, sqB1 HB GE291⟩
  ·rw [if_neg c5] at H
   have c5b0 : decide ((wrap64 (-a1)) ≤ a0_0) = false := decide_eq_false c5
   clear c5
   obtain rfl := Option.some.inj H
   go_enter Tryz.func104, Tryz.ntmps104
   go_wp2_with (first | ((with_reducible refine gate_dst (N := 2) rfl ?_); refine sqBox (N := 2) (cs := #[.int .i64 a0_0, .int .i64 a0_1]) (t := 31) ?_; intro gb291 hg w15 BK291 hb; have GW291 := Aside0.mk ((sqG hg (sqB HB))); have GE291 := GW291; replace HB := sqS (sqB HB) hb; clear hb hg; obtain ⟨hcz16_0, hcz16_1, hfz16_0, hfz16_1⟩ := sqY2 BK291) | ((with_reducible refine gate_callee (f := 70) rfl ?_); refine goesL_ (some 6) rfl rfl Tryz.func70 (by kernel_rfl) rfl #[.agg #[.int .i64 a0_0, .int .i64 a0_1]] rfl sqA ?_; (with_reducible refine (impl_isFraction.calls k a0_0 a0_1 true _ A3.out).mono ?_); rintro e w17 ⟨rfl, hb⟩; refine ⟨_, rfl, ?_⟩; replace BK291 := sqT BK291 hb; replace HB := sqS (sqB1 HB GE291) hb; (try clear hb); obtain ⟨hcz18_0, hcz18_1, hfz18_0, hfz18_1⟩ := sqY2 BK291))
   go_ret
   exact ⟨Z3, sqB1 HB GE291⟩
 ·replace c4 := Bool.eq_false_iff.mpr c4
  subst c4
  rw [if_neg sqF] at H
  obtain rfl := Option.some.inj H
  go_enter Tryz.func104, Tryz.ntmps104
  go_wp2_with (first | ((with_reducible refine gate_dst (N := 2) rfl ?_); refine sqBox (N := 2) (cs := #[.int .i64 a0_0, .int .i64 a0_1]) (t := 31) ?_; intro gb291 hg w19 BK291 hb; have GW291 := Aside0.mk ((sqG hg (sqB HB))); have GE291 := GW291; replace HB := sqS (sqB HB) hb; clear hb hg; obtain ⟨hcz20_0, hcz20_1, hfz20_0, hfz20_1⟩ := sqY2 BK291) | ((with_reducible refine gate_callee (f := 70) rfl ?_); refine goesL_ (some 6) rfl rfl Tryz.func70 (by kernel_rfl) rfl #[.agg #[.int .i64 a0_0, .int .i64 a0_1]] rfl sqA ?_; (with_reducible refine (impl_isFraction.calls k a0_0 a0_1 false _ A3.out).mono ?_); rintro e w21 ⟨rfl, hb⟩; refine ⟨_, rfl, ?_⟩; replace BK291 := sqT BK291 hb; replace HB := sqS (sqB1 HB GE291) hb; (try clear hb)))
  go_ret
  exact ⟨Z3, sqB1 HB GE291⟩

-- given: function 84 (strings_Cut)

-- given: function 144 (strconv_Itoa)

end Go.Proofs.YtofmlbgfcohhoaaGreatDoor.PFnDeskDo
