/- Lean functions of the Go functions that the law FnDeskOk reaches, each with its contract: made by a program of this session. -/
import Derived.Test.YtcfnihniaakbeaaPFnDeskOkx0
import Derived.Test.YtcfnihniaakbeaaPFnDeskOkx3
namespace Go.Proofs.Ytcfnihniaakbeaa.PFnDeskOk
open Go.RowKit Go.Proofs.YtcfnihniaakbeaaW.PrintWords Go.Proofs.YtcfnihniaakbeaaW.PrintLast Go.Proofs.YtcfnihniaakbeaaW.PrintMore
attribute [local go_sem] max2_int min2_int max_two min_two max_three min_three max_four min_four   -- for this text's walks alone
set_option linter.unusedVariables false
set_option linter.unusedSimpArgs false

/-! ### spec_LowestOf: function 24 -/
def spec_LowestOf.j0 : Nat → Int → Int → Bool → Option (Int × Int × Bool)
 | 0, _, _, _ => none
 | k + 1, x0, x1, x22 => if x22 = true then (some (0, 0, false)) else ((spec_l1Common.f k x0 x1).bind fun t116 => (if x1 < 0 then (if (wrap64 (-t116)) = 0 then (none) else (some (wrap64 (Int.tdiv x0 (wrap64 (-t116))), wrap64 (Int.tdiv x1 (wrap64 (-t116))), true))) else (if x1 = 0 then (if x0 < 0 then (if (wrap64 (-t116)) = 0 then (none) else (some (wrap64 (Int.tdiv x0 (wrap64 (-t116))), wrap64 (Int.tdiv x1 (wrap64 (-t116))), true))) else (if t116 = 0 then (none) else (some (wrap64 (Int.tdiv x0 t116), wrap64 (Int.tdiv x1 t116), true)))) else (if t116 = 0 then (none) else (some (wrap64 (Int.tdiv x0 t116), wrap64 (Int.tdiv x1 t116), true))))))
def spec_LowestOf.f (k : Nat) (a0 : Int) (a1 : Int) : Option (Int × Int × Bool) := (spec_l1In.f a0 (-1000000) 1000000).bind fun t114 => (if t114 = true then ((spec_l1In.f a1 (-1000000) 1000000).bind fun t115 => (if t115 = true then (if a0 = 0 then (spec_LowestOf.j0 k a0 a1 (a1 == 0)) else (spec_LowestOf.j0 k a0 a1 false)) else (spec_LowestOf.j0 k a0 a1 true))) else (spec_LowestOf.j0 k a0 a1 true))
theorem spec_LowestOf.mono_l : ∀ k, (∀ y0 y1 y2, LeO (spec_LowestOf.j0 k y0 y1 y2) (spec_LowestOf.j0 (k + 1) y0 y1 y2))
 | 0 => fun _ _ _ r h => by simp [spec_LowestOf.j0] at h
 | k + 1 => by
  have ih0 := spec_LowestOf.mono_l k
  ·intro y0 y1 y2
   unfold spec_LowestOf.j0
   repeat' first
   | (with_reducible exact ih0 _ _ _)
   | (with_reducible exact spec_l1Common.mono _ _ _)
   | (with_reducible exact LeO.refl _)
   | (with_reducible exact LeO.none _)
   | (with_reducible refine LeO.ite ?_ ?_)
   | (with_reducible refine LeO.bind ?_ (fun _ => ?_))
theorem spec_LowestOf.mono : ∀ a0 a1 k, LeO (spec_LowestOf.f k a0 a1) (spec_LowestOf.f (k + 1) a0 a1) := by
 intro a0 a1 k
 have ih0 := spec_LowestOf.mono_l k
 unfold spec_LowestOf.f
 repeat' first
   | (with_reducible exact ih0 _ _ _)
   | (with_reducible exact spec_l1Common.mono _ _ _)
   | (with_reducible exact LeO.refl _)
   | (with_reducible exact LeO.none _)
   | (with_reducible refine LeO.ite ?_ ?_)
   | (with_reducible refine LeO.bind ?_ (fun _ => ?_))
def spec_LowestOf.T6 : Bool × List (List Nat × List Nat) := (true, [([], []), ([], []), ([0, 1], [0, 1]), ([], []), ([], []), ([3, 4], [3, 4]), ([2, 5], [2, 5]), ([6, 0, 1, 2, 3, 4, 5, 6], [6]), ([7, 0, 1, 2, 3, 4, 5, 6, 7], [])])
def spec_LowestOf.B6 : List Nat := [0, 0, 3, 0, 0, 24, 63, 127, 255]
theorem spec_LowestOf.tab6 : rtab .any (opsOf Try.f24 6) = spec_LowestOf.T6 := by kernel_rfl
theorem spec_LowestOf.bits6 : waitsOk spec_LowestOf.T6.2 spec_LowestOf.B6 = true := by kernel_rfl
set_option maxHeartbeats 8000000 in
set_option maxRecDepth 100000 in
theorem spec_LowestOf.calls (k : Nat) (a0 : Int) (a1 : Int) (r1 : Int) (r2 : Int) (r3 : Bool) (w : World) (h : spec_LowestOf.f k a0 a1 = some (r1, r2, r3)) :
  Calls Try.prog 24 #[.int .i64 a0, .int .i64 a1] w fun e w' => e = .returned (.tuple #[.agg #[.int .i64 r1, .int .i64 r2], .bool r3]) ∧ Below w.heap.size w w' := by
 have hu24 := Try.underlying24
 have HB := Aside0.mk (Below.refl w.heap.size w)
 have H : ((spec_l1In.f a0 (-1000000) 1000000).bind fun t114 => (if t114 = true then ((spec_l1In.f a1 (-1000000) 1000000).bind fun t115 => (if t115 = true then (if a0 = 0 then (spec_LowestOf.j0 k a0 a1 (a1 == 0)) else (spec_LowestOf.j0 k a0 a1 false)) else (spec_LowestOf.j0 k a0 a1 true))) else (spec_LowestOf.j0 k a0 a1 true))) = some (r1, r2, r3) := h
 clear h
 have HC3 := Aside0.mk H
 clear H
 go_enter Try.func24, Try.ntmps24
 go_upto_region 1 with (first | ((with_reducible refine gate_dst (N := 4) rfl ?_); refine sqBox (N := 4) (cs := #[.int .i64 0, .int .i64 0]) (t := 24) ?_; intro gb113 hg w4 BK113 hb; have GW113 := Aside0.mk ((sqG hg (sqB HB))); have GE113 := GW113; replace HB := sqS (sqB HB) hb; clear hb hg))
 (try simp only [Act.put, List.setIfInBounds_toArray, List.set_cons_zero, List.set_cons_succ])
 go_cut [22] (fun v22 wc => ∃ (kq : Nat) (x22_2 : Bool), v22 = .bool x22_2 ∧ Aside0 (spec_LowestOf.j0 kq a0 a1 x22_2 = some (r1, r2, r3)) ∧ Aside0 (kq ≤ k) ∧ Aside0 (wc.heap[gb113]? = some (.cells #[.int .i64 0, .int .i64 0] 24 (0, 0))) ∧ Aside0 (Below w.heap.size w wc))
 case first =>
  have H := HC3.out
  clear HC3
  obtain ⟨t114, A5, H⟩ := sqD H
  by_cases c6 : t114 = true
  ·subst c6
   have H1 : ((spec_l1In.f a1 (-1000000) 1000000).bind fun t115 => (if t115 = true then (if a0 = 0 then (spec_LowestOf.j0 k a0 a1 (a1 == 0)) else (spec_LowestOf.j0 k a0 a1 false)) else (spec_LowestOf.j0 k a0 a1 true))) = some (r1, r2, r3) := by rw [if_pos rfl] at H; exact H
   clear H
   have H := H1
   clear H1
   obtain ⟨t115, A7, H⟩ := sqD H
   by_cases c8 : t115 = true
   ·subst c8
    have H1 : (if a0 = 0 then (spec_LowestOf.j0 k a0 a1 (a1 == 0)) else (spec_LowestOf.j0 k a0 a1 false)) = some (r1, r2, r3) := by rw [if_pos rfl] at H; exact H
    clear H
    have H := H1
    clear H1
    by_cases c9 : a0 = 0
    ·rw [if_pos c9] at H
     have c9b0 : (a0 == 0) = true := beq_iff_eq.mpr c9
     have c9b1 : (a0 != 0) = false := bne_eq_false_iff_eq.mpr c9
     clear c9
     (first | rw [c9b0] | (simp only [i64_w, i32_w]; rw [c9b0]) | skip)
     have H' := Aside0.mk H
     clear H
     go_wp2_with (first | ((with_reducible refine gate_callee (f := 22) rfl ?_); refine goesL_ (some 8) rfl rfl Try.func22 (by kernel_rfl) rfl #[.int .i64 a0, .int .i64 (-1000000), .int .i64 1000000] rfl sqA ?_; (with_reducible refine (spec_l1In.calls a0 (-1000000) 1000000 true _ A5.out).mono ?_); rintro e w' ⟨rfl, ⟨nd, rfl⟩⟩; refine ⟨_, rfl, ?_⟩) | (go_at_call 22; (with_reducible refine (spec_l1In.calls a1 (-1000000) 1000000 true _ A7.out).mono ?_); rintro e w' ⟨rfl, ⟨nd, rfl⟩⟩))
     go_meet
     case rel => exact ⟨_, ((a1 == 0)), Z2, H', ⟨Z3⟩, ⟨sqK BK113⟩, ⟨sqB1 HB GE113⟩⟩
    ·rw [if_neg c9] at H
     have c9b0 : (a0 == 0) = false := beq_eq_false_iff_ne.mpr c9
     have c9b1 : (a0 != 0) = true := bne_iff_ne.mpr c9
     (first | rw [c9b0] | (simp only [i64_w, i32_w]; rw [c9b0]) | skip)
     have H' := Aside0.mk H
     clear H
     go_wp2_with (first | ((with_reducible refine gate_callee (f := 22) rfl ?_); refine goesL_ (some 8) rfl rfl Try.func22 (by kernel_rfl) rfl #[.int .i64 a0, .int .i64 (-1000000), .int .i64 1000000] rfl sqA ?_; (with_reducible refine (spec_l1In.calls a0 (-1000000) 1000000 true _ A5.out).mono ?_); rintro e w' ⟨rfl, ⟨nd, rfl⟩⟩; refine ⟨_, rfl, ?_⟩) | (go_at_call 22; (with_reducible refine (spec_l1In.calls a1 (-1000000) 1000000 true _ A7.out).mono ?_); rintro e w' ⟨rfl, ⟨nd, rfl⟩⟩))
     go_meet
     case rel => exact ⟨_, (false), Z2, H', ⟨Z3⟩, ⟨sqK BK113⟩, ⟨sqB1 HB GE113⟩⟩
   ·replace c8 := Bool.eq_false_iff.mpr c8
    subst c8
    have H1 : (spec_LowestOf.j0 k a0 a1 true) = some (r1, r2, r3) := by rw [if_neg (show ¬ (false = true) by decide)] at H; exact H
    clear H
    have H := H1
    clear H1
    have H' := Aside0.mk H
    clear H
    go_wp2_with (first | ((with_reducible refine gate_callee (f := 22) rfl ?_); refine goesL_ (some 8) rfl rfl Try.func22 (by kernel_rfl) rfl #[.int .i64 a0, .int .i64 (-1000000), .int .i64 1000000] rfl sqA ?_; (with_reducible refine (spec_l1In.calls a0 (-1000000) 1000000 true _ A5.out).mono ?_); rintro e w' ⟨rfl, ⟨nd, rfl⟩⟩; refine ⟨_, rfl, ?_⟩) | (go_at_call 22; (with_reducible refine (spec_l1In.calls a1 (-1000000) 1000000 false _ A7.out).mono ?_); rintro e w' ⟨rfl, ⟨nd, rfl⟩⟩))
    go_meet
    case rel => exact ⟨_, (true), Z2, H', ⟨Z3⟩, ⟨sqK BK113⟩, ⟨sqB1 HB GE113⟩⟩
  ·replace c6 := Bool.eq_false_iff.mpr c6
   subst c6
   have H1 : (spec_LowestOf.j0 k a0 a1 true) = some (r1, r2, r3) := by rw [if_neg (show ¬ (false = true) by decide)] at H; exact H
   clear H
   have H := H1
   clear H1
   have H' := Aside0.mk H
   clear H
   go_wp2_with (first | ((with_reducible refine gate_callee (f := 22) rfl ?_); refine goesL_ (some 8) rfl rfl Try.func22 (by kernel_rfl) rfl #[.int .i64 a0, .int .i64 (-1000000), .int .i64 1000000] rfl sqA ?_; (with_reducible refine (spec_l1In.calls a0 (-1000000) 1000000 false _ A5.out).mono ?_); rintro e w' ⟨rfl, ⟨nd, rfl⟩⟩; refine ⟨_, rfl, ?_⟩))
   go_meet
   case rel => exact ⟨_, (true), Z2, H', ⟨Z3⟩, ⟨sqK BK113⟩, ⟨sqB1 HB GE113⟩⟩
 case rest =>
  clear HC3
  try clear c2; try clear p2; try clear c6; try clear c8; try clear c9; try clear c9b0; try clear c9b1
  obtain ⟨kq, x22_2, rfl, HA, HJ2, BK113, HB⟩ := hcut
  cases kq with
  | zero => exact absurd HA.out (by simp [spec_LowestOf.j0])
  | succ kj2 =>
   have H := HA.out
   clear HA
   simp only [spec_LowestOf.j0] at H
   by_cases c10 : x22_2 = true
   ·subst c10
    have H1 : (some (0, 0, false)) = some (r1, r2, r3) := by rw [if_pos rfl] at H; exact H
    clear H
    have H := H1
    clear H1
    simp only [Option.some.injEq, Prod.mk.injEq] at H
    obtain ⟨rfl, rfl, rfl⟩ := H
    obtain ⟨hcz11_0, hcz11_1, hfz11_0, hfz11_1⟩ := sqY2 BK113
    go_wp2
    refine bodyPost_ret (results_ct rfl _ _ gb113 24 #[.int .i64 0, .int .i64 0] (0, 0) _ rfl (Z26 BK113) Try.underlying24 rfl (by kernel_rfl)) rfl ?_
    exact ⟨Z14, sqB1 HB GE113⟩
   ·replace c10 := Bool.eq_false_iff.mpr c10
    subst c10
    have H1 : ((spec_l1Common.f kj2 a0 a1).bind fun t116 => (if a1 < 0 then (if (wrap64 (-t116)) = 0 then (none) else (some (wrap64 (Int.tdiv a0 (wrap64 (-t116))), wrap64 (Int.tdiv a1 (wrap64 (-t116))), true))) else (if a1 = 0 then (if a0 < 0 then (if (wrap64 (-t116)) = 0 then (none) else (some (wrap64 (Int.tdiv a0 (wrap64 (-t116))), wrap64 (Int.tdiv a1 (wrap64 (-t116))), true))) else (if t116 = 0 then (none) else (some (wrap64 (Int.tdiv a0 t116), wrap64 (Int.tdiv a1 t116), true)))) else (if t116 = 0 then (none) else (some (wrap64 (Int.tdiv a0 t116), wrap64 (Int.tdiv a1 t116), true)))))) = some (r1, r2, r3) := by rw [if_neg (show ¬ (false = true) by decide)] at H; exact H
    clear H
    have H := H1
    clear H1
    obtain ⟨t116, A12, H⟩ := sqD H
    by_cases c13 : a1 < 0
    ·rw [if_pos c13] at H
     have c13b0 : decide (a1 < 0) = true := decide_eq_true c13
     clear c13
     by_cases c14 : (wrap64 (-t116)) = 0
     ·rw [if_pos c14] at H
      exact absurd H (by simp)
     ·rw [if_neg c14] at H
      have c14b0 : ((wrap64 (-t116)) == 0) = false := beq_eq_false_iff_ne.mpr c14
      have c14b1 : ((wrap64 (-t116)) != 0) = true := bne_iff_ne.mpr c14
      simp only [Option.some.injEq, Prod.mk.injEq] at H
      obtain ⟨rfl, rfl, rfl⟩ := H
      try go_wp2_with (first | ((with_reducible refine gate_callee (f := 23) rfl ?_); refine goesL_ (some 26) rfl rfl Try.func23 (by kernel_rfl) rfl #[.int .i64 a0, .int .i64 a1] rfl sqA ?_; (with_reducible refine (spec_l1Common.calls kj2 a0 a1 t116 _ A12.out).mono ?_); rintro e w15 ⟨rfl, hb⟩; refine ⟨_, rfl, ?_⟩; replace BK113 := sqT BK113 hb; replace HB := sqS (sqB1 HB GE113) hb; (try clear hb)))
      replace BK113 := Aside0.mk (blk_drew BK113.out)
      replace HB := Aside0.mk (below_drew1 HB.out)
      refine start_ (n := 9) (S := fun w' => True) (ds := []) #[false, false, false, false, false, false, false, false, false] (by kernel_rfl) rfl rfl trivial (fun hHeld => ?_); refine with_tabW spec_LowestOf.tab6 spec_LowestOf.bits6 (fun HT_ HW_ => ?_)
      generalize w15.drew = w16 at BK113 HB hHeld ⊢
      refine sqP (i := 0) (N := some 39) (h := ?_)
      refine sqP (i := 1) (N := some 40) (h := ?_)
      refine sqP (i := 2) (N := some 41) (h := ?_)
      refine sqP (i := 3) (N := some 42) (h := ?_)
      refine sqP (i := 4) (N := some 43) (h := ?_)
      refine sqP (i := 5) (N := some 44) (h := ?_)
      refine sqP (i := 6) (N := some 45) (h := ?_)
      refine one_ (i := 7) (N := none) #[true, true, true, true, true, true, true, true, false] rfl rfl (one_of HT_.out (by kernel_rfl)) (by decide) (fun K hK => ?_)
      have hs17 : w16.cell? ⟨gb113, 0, none⟩ = some (.int .i64 0) := (blk_cell BK113.out 0).trans rfl
      have hfs17 := blk_frozen BK113.out 0
      have hs18 : w16.cell? ⟨gb113, 1, none⟩ = some (.int .i64 0) := (blk_cell BK113.out 1).trans rfl
      have hfs18 := blk_frozen BK113.out 1
      refine skip_ (w1 := ?_) (by rfl) rfl ?_ ?_
      rotate_left
      ·go_simp
       rfl
      refine hK.out _ _ trivial (fun hHeld => ?_)
      clear hK K
      refine sqP (i := 8) (N := some 5) (h := ?_)
      refine done_ (done_of HT_.out (by kernel_rfl)) ?_
      try go_wp2
      refine bodyPost_ret (results_ct rfl _ _ gb113 24 #[.int .i64 (wrap64 (Int.tdiv a0 (wrap64 (-t116)))), .int .i64 (wrap64 (Int.tdiv a1 (wrap64 (-t116))))] (0, 0) _ rfl (Z52 BK113) Try.underlying24 rfl (by kernel_rfl)) rfl ?_
      exact ⟨Z14, sqB1 HB GE113⟩
    ·rw [if_neg c13] at H
     have c13b0 : decide (a1 < 0) = false := decide_eq_false c13
     clear c13
     by_cases c19 : a1 = 0
     ·rw [if_pos c19] at H
      have c19b0 : (a1 == 0) = true := beq_iff_eq.mpr c19
      have c19b1 : (a1 != 0) = false := bne_eq_false_iff_eq.mpr c19
      clear c19
      by_cases c20 : a0 < 0
      ·rw [if_pos c20] at H
       have c20b0 : decide (a0 < 0) = true := decide_eq_true c20
       clear c20
       by_cases c21 : (wrap64 (-t116)) = 0
       ·rw [if_pos c21] at H
        exact absurd H (by simp)
       ·rw [if_neg c21] at H
        have c21b0 : ((wrap64 (-t116)) == 0) = false := beq_eq_false_iff_ne.mpr c21
        have c21b1 : ((wrap64 (-t116)) != 0) = true := bne_iff_ne.mpr c21
        simp only [Option.some.injEq, Prod.mk.injEq] at H
        obtain ⟨rfl, rfl, rfl⟩ := H
        try go_wp2_with (first | ((with_reducible refine gate_callee (f := 23) rfl ?_); refine goesL_ (some 26) rfl rfl Try.func23 (by kernel_rfl) rfl #[.int .i64 a0, .int .i64 a1] rfl sqA ?_; (with_reducible refine (spec_l1Common.calls kj2 a0 a1 t116 _ A12.out).mono ?_); rintro e w22 ⟨rfl, hb⟩; refine ⟨_, rfl, ?_⟩; replace BK113 := sqT BK113 hb; replace HB := sqS (sqB1 HB GE113) hb; (try clear hb)))
        replace BK113 := Aside0.mk (blk_drew BK113.out)
        replace HB := Aside0.mk (below_drew1 HB.out)
        refine start_ (n := 9) (S := fun w' => True) (ds := []) #[false, false, false, false, false, false, false, false, false] (by kernel_rfl) rfl rfl trivial (fun hHeld => ?_); refine with_tabW spec_LowestOf.tab6 spec_LowestOf.bits6 (fun HT_ HW_ => ?_)
        generalize w22.drew = w23 at BK113 HB hHeld ⊢
        refine sqP (i := 0) (N := some 39) (h := ?_)
        refine sqP (i := 1) (N := some 40) (h := ?_)
        refine sqP (i := 2) (N := some 41) (h := ?_)
        refine sqP (i := 3) (N := some 42) (h := ?_)
        refine sqP (i := 4) (N := some 43) (h := ?_)
        refine sqP (i := 5) (N := some 44) (h := ?_)
        refine sqP (i := 6) (N := some 45) (h := ?_)
        refine one_ (i := 7) (N := none) #[true, true, true, true, true, true, true, true, false] rfl rfl (one_of HT_.out (by kernel_rfl)) (by decide) (fun K hK => ?_)
        have hs24 : w23.cell? ⟨gb113, 0, none⟩ = some (.int .i64 0) := (blk_cell BK113.out 0).trans rfl
        have hfs24 := blk_frozen BK113.out 0
        have hs25 : w23.cell? ⟨gb113, 1, none⟩ = some (.int .i64 0) := (blk_cell BK113.out 1).trans rfl
        have hfs25 := blk_frozen BK113.out 1
        refine skip_ (w1 := ?_) (by rfl) rfl ?_ ?_
        rotate_left
        ·go_simp
         rfl
        refine hK.out _ _ trivial (fun hHeld => ?_)
        clear hK K
        refine sqP (i := 8) (N := some 5) (h := ?_)
        refine done_ (done_of HT_.out (by kernel_rfl)) ?_
        try go_wp2
        refine bodyPost_ret (results_ct rfl _ _ gb113 24 #[.int .i64 (wrap64 (Int.tdiv a0 (wrap64 (-t116)))), .int .i64 (wrap64 (Int.tdiv a1 (wrap64 (-t116))))] (0, 0) _ rfl (Z52 BK113) Try.underlying24 rfl (by kernel_rfl)) rfl ?_
        exact ⟨Z14, sqB1 HB GE113⟩
      ·rw [if_neg c20] at H
       have c20b0 : decide (a0 < 0) = false := decide_eq_false c20
       clear c20
       by_cases c26 : t116 = 0
       ·rw [if_pos c26] at H
        exact absurd H (by simp)
       ·rw [if_neg c26] at H
        have c26b0 : (t116 == 0) = false := beq_eq_false_iff_ne.mpr c26
        have c26b1 : (t116 != 0) = true := bne_iff_ne.mpr c26
        simp only [Option.some.injEq, Prod.mk.injEq] at H
        obtain ⟨rfl, rfl, rfl⟩ := H
        try go_wp2_with (first | ((with_reducible refine gate_callee (f := 23) rfl ?_); refine goesL_ (some 26) rfl rfl Try.func23 (by kernel_rfl) rfl #[.int .i64 a0, .int .i64 a1] rfl sqA ?_; (with_reducible refine (spec_l1Common.calls kj2 a0 a1 t116 _ A12.out).mono ?_); rintro e w27 ⟨rfl, hb⟩; refine ⟨_, rfl, ?_⟩; replace BK113 := sqT BK113 hb; replace HB := sqS (sqB1 HB GE113) hb; (try clear hb)))
        replace BK113 := Aside0.mk (blk_drew BK113.out)
        replace HB := Aside0.mk (below_drew1 HB.out)
        refine start_ (n := 9) (S := fun w' => True) (ds := []) #[false, false, false, false, false, false, false, false, false] (by kernel_rfl) rfl rfl trivial (fun hHeld => ?_); refine with_tabW spec_LowestOf.tab6 spec_LowestOf.bits6 (fun HT_ HW_ => ?_)
        generalize w27.drew = w28 at BK113 HB hHeld ⊢
        refine sqP (i := 0) (N := some 39) (h := ?_)
        refine sqP (i := 1) (N := some 40) (h := ?_)
        refine sqP (i := 2) (N := some 41) (h := ?_)
        refine sqP (i := 3) (N := some 42) (h := ?_)
        refine sqP (i := 4) (N := some 43) (h := ?_)
        refine sqP (i := 5) (N := some 44) (h := ?_)
        refine sqP (i := 6) (N := some 45) (h := ?_)
        refine one_ (i := 7) (N := none) #[true, true, true, true, true, true, true, true, false] rfl rfl (one_of HT_.out (by kernel_rfl)) (by decide) (fun K hK => ?_)
        have hs29 : w28.cell? ⟨gb113, 0, none⟩ = some (.int .i64 0) := (blk_cell BK113.out 0).trans rfl
        have hfs29 := blk_frozen BK113.out 0
        have hs30 : w28.cell? ⟨gb113, 1, none⟩ = some (.int .i64 0) := (blk_cell BK113.out 1).trans rfl
        have hfs30 := blk_frozen BK113.out 1
        refine skip_ (w1 := ?_) (by rfl) rfl ?_ ?_
        rotate_left
        ·go_simp
         rfl
        refine hK.out _ _ trivial (fun hHeld => ?_)
        clear hK K
        refine sqP (i := 8) (N := some 5) (h := ?_)
        refine done_ (done_of HT_.out (by kernel_rfl)) ?_
        try go_wp2
        refine bodyPost_ret (results_ct rfl _ _ gb113 24 #[.int .i64 (wrap64 (Int.tdiv a0 t116)), .int .i64 (wrap64 (Int.tdiv a1 t116))] (0, 0) _ rfl (Z53 BK113) Try.underlying24 rfl (by kernel_rfl)) rfl ?_
        exact ⟨Z14, sqB1 HB GE113⟩
     ·rw [if_neg c19] at H
      have c19b0 : (a1 == 0) = false := beq_eq_false_iff_ne.mpr c19
      have c19b1 : (a1 != 0) = true := bne_iff_ne.mpr c19
      by_cases c31 : t116 = 0
      ·rw [if_pos c31] at H
       exact absurd H (by simp)
      ·rw [if_neg c31] at H
       have c31b0 : (t116 == 0) = false := beq_eq_false_iff_ne.mpr c31
       have c31b1 : (t116 != 0) = true := bne_iff_ne.mpr c31
       simp only [Option.some.injEq, Prod.mk.injEq] at H
       obtain ⟨rfl, rfl, rfl⟩ := H
       try go_wp2_with (first | ((with_reducible refine gate_callee (f := 23) rfl ?_); refine goesL_ (some 26) rfl rfl Try.func23 (by kernel_rfl) rfl #[.int .i64 a0, .int .i64 a1] rfl sqA ?_; (with_reducible refine (spec_l1Common.calls kj2 a0 a1 t116 _ A12.out).mono ?_); rintro e w32 ⟨rfl, hb⟩; refine ⟨_, rfl, ?_⟩; replace BK113 := sqT BK113 hb; replace HB := sqS (sqB1 HB GE113) hb; (try clear hb)))
       replace BK113 := Aside0.mk (blk_drew BK113.out)
       replace HB := Aside0.mk (below_drew1 HB.out)
       refine start_ (n := 9) (S := fun w' => True) (ds := []) #[false, false, false, false, false, false, false, false, false] (by kernel_rfl) rfl rfl trivial (fun hHeld => ?_); refine with_tabW spec_LowestOf.tab6 spec_LowestOf.bits6 (fun HT_ HW_ => ?_)
       generalize w32.drew = w33 at BK113 HB hHeld ⊢
       refine sqP (i := 0) (N := some 39) (h := ?_)
       refine sqP (i := 1) (N := some 40) (h := ?_)
       refine sqP (i := 2) (N := some 41) (h := ?_)
       refine sqP (i := 3) (N := some 42) (h := ?_)
       refine sqP (i := 4) (N := some 43) (h := ?_)
       refine sqP (i := 5) (N := some 44) (h := ?_)
       refine sqP (i := 6) (N := some 45) (h := ?_)
       refine one_ (i := 7) (N := none) #[true, true, true, true, true, true, true, true, false] rfl rfl (one_of HT_.out (by kernel_rfl)) (by decide) (fun K hK => ?_)
       have hs34 : w33.cell? ⟨gb113, 0, none⟩ = some (.int .i64 0) := (blk_cell BK113.out 0).trans rfl
       have hfs34 := blk_frozen BK113.out 0
       have hs35 : w33.cell? ⟨gb113, 1, none⟩ = some (.int .i64 0) := (blk_cell BK113.out 1).trans rfl
       have hfs35 := blk_frozen BK113.out 1
       refine skip_ (w1 := ?_) (by rfl) rfl ?_ ?_
       rotate_left
       ·go_simp
        rfl
       refine hK.out _ _ trivial (fun hHeld => ?_)
       clear hK K
       refine sqP (i := 8) (N := some 5) (h := ?_)
       refine done_ (done_of HT_.out (by kernel_rfl)) ?_
       try go_wp2
       refine bodyPost_ret (results_ct rfl _ _ gb113 24 #[.int .i64 (wrap64 (Int.tdiv a0 t116)), .int .i64 (wrap64 (Int.tdiv a1 t116))] (0, 0) _ rfl (Z53 BK113) Try.underlying24 rfl (by kernel_rfl)) rfl ?_
       exact ⟨Z14, sqB1 HB GE113⟩

/-! ### spec_l20Fraction: function 14 -/
def spec_l20Fraction.j0 : Nat → Int → List Int → Int → Int → Int → Option (Int × Int × Int)
 | 0, _, _, _, _, _ => none
 | k + 1, x1, x1000, x1001, x134000, x134001 => (spec_l20Rd_odd.f k x1000 x1001 x1).bind fun bt134 => (if bt134.1 = true then ((some (([(⟨0, 0⟩ : S24), (⟨2, 4⟩ : S24), (⟨1, (-2)⟩ : S24), (⟨(-1), 0⟩ : S24), (⟨1000001, 1⟩ : S24)] : List (S24)) : List (S24))).bind fun y136 => ((spec_l20Rd_pick.f k x1000 bt134.2 5).bind fun bt139 => (if 0 ≤ bt139.1 then (if bt139.1 < (y136.length : Int) then (some ((rd_T24 y136 bt139.1).f0, (rd_T24 y136 bt139.1).f1, bt139.2)) else (none)) else (none)))) else (some (x134000, x134001, bt134.2)))
def spec_l20Fraction.f (k : Nat) (s0_0 : List Int) (s0_1 : Int) (a1 : Int) : Option (Int × Int × Int) := (some (([4, 10, 50, 1000] : List Int) : List Int)).bind fun y118 => ((spec_l20Rd_pick.f k s0_0 s0_1 4).bind fun bt121 => (if 0 ≤ bt121.1 then (if bt121.1 < (y118.length : Int) then ((spec_l20Rd_pick.f k s0_0 bt121.2 (rd y118 bt121.1)).bind fun bt124 => ((spec_l20Rd_pick.f k s0_0 bt124.2 (rd y118 bt121.1)).bind fun bt126 => ((spec_l20Rd_pick.f k s0_0 bt126.2 (rd y118 bt121.1)).bind fun bt128 => ((spec_LowestOf.f k (wrap64 (bt124.1 - bt126.1)) bt128.1).bind fun bt130 => (if bt130.2.2 = true then (spec_l20Fraction.j0 k a1 s0_0 bt128.2 bt130.1 bt130.2.1) else (spec_l20Fraction.j0 k a1 s0_0 bt128.2 1 0)))))) else (none)) else (none)))
theorem spec_l20Fraction.mono_l : ∀ k, (∀ y0 y1 y2 y3 y4, LeO (spec_l20Fraction.j0 k y0 y1 y2 y3 y4) (spec_l20Fraction.j0 (k + 1) y0 y1 y2 y3 y4))
 | 0 => fun _ _ _ _ _ r h => by simp [spec_l20Fraction.j0] at h
 | k + 1 => by
  have ih0 := spec_l20Fraction.mono_l k
  ·intro y0 y1 y2 y3 y4
   unfold spec_l20Fraction.j0
   repeat' first
   | (with_reducible exact ih0 _ _ _ _ _)
   | (with_reducible exact spec_LowestOf.mono _ _ _)
   | (with_reducible exact spec_l20Rd_odd.mono _ _ _ _)
   | (with_reducible exact spec_l20Rd_pick.mono _ _ _ _)
   | (with_reducible exact LeO.refl _)
   | (with_reducible exact LeO.none _)
   | (with_reducible refine LeO.ite ?_ ?_)
   | (with_reducible refine LeO.bind ?_ (fun _ => ?_))
theorem spec_l20Fraction.mono : ∀ a0 a1 a2 k, LeO (spec_l20Fraction.f k a0 a1 a2) (spec_l20Fraction.f (k + 1) a0 a1 a2) := by
 intro a0 a1 a2 k
 have ih0 := spec_l20Fraction.mono_l k
 unfold spec_l20Fraction.f
 repeat' first
   | (with_reducible exact ih0 _ _ _ _ _)
   | (with_reducible exact spec_LowestOf.mono _ _ _)
   | (with_reducible exact spec_l20Rd_odd.mono _ _ _ _)
   | (with_reducible exact spec_l20Rd_pick.mono _ _ _ _)
   | (with_reducible exact LeO.refl _)
   | (with_reducible exact LeO.none _)
   | (with_reducible refine LeO.ite ?_ ?_)
   | (with_reducible refine LeO.bind ?_ (fun _ => ?_))
set_option maxHeartbeats 8000000 in
set_option maxRecDepth 100000 in
theorem spec_l20Fraction.calls (k : Nat) (g : Nat) (s0_0 : List Int) (s0_1 : Int) (a1 : Int) (r1 : Int) (r2 : Int) (r3 : Int) (w0 w : World) (hI : IsS46 w0 w g s0_0 s0_1) (hB : Below w0.heap.size w0 w) (h : spec_l20Fraction.f k s0_0 s0_1 a1 = some (r1, r2, r3)) :
  Calls Try.prog 14 #[.pointer (some ⟨g, 0, none⟩), .int .i64 a1] w fun e w' => e = .returned (.agg #[.int .i64 r1, .int .i64 r2]) ∧ IsS46 w0 w' g s0_0 r3 ∧ Below w0.heap.size w0 w' ∧ KeepBut w w' g none := by
 have hu24 := Try.underlying24
 have HI0 := Aside0.mk hI
 have HK := Aside0.mk (KeepBut.refl w g none)
 have HL := Aside0.mk hB.size
 clear hI
 have HW0 := Aside0.mk hB.size
 have HB := Aside0.mk hB
 clear hB
 have H : ((some (([4, 10, 50, 1000] : List Int) : List Int)).bind fun y118 => ((spec_l20Rd_pick.f k s0_0 s0_1 4).bind fun bt121 => (if 0 ≤ bt121.1 then (if bt121.1 < (y118.length : Int) then ((spec_l20Rd_pick.f k s0_0 bt121.2 (rd y118 bt121.1)).bind fun bt124 => ((spec_l20Rd_pick.f k s0_0 bt124.2 (rd y118 bt121.1)).bind fun bt126 => ((spec_l20Rd_pick.f k s0_0 bt126.2 (rd y118 bt121.1)).bind fun bt128 => ((spec_LowestOf.f k (wrap64 (bt124.1 - bt126.1)) bt128.1).bind fun bt130 => (if bt130.2.2 = true then (spec_l20Fraction.j0 k a1 s0_0 bt128.2 bt130.1 bt130.2.1) else (spec_l20Fraction.j0 k a1 s0_0 bt128.2 1 0)))))) else (none)) else (none)))) = some (r1, r2, r3) := h
 clear h
 obtain ⟨y118, hy118⟩ : ∃ y_ : List Int, y_ = (([4, 10, 50, 1000] : List Int)) := ⟨_, rfl⟩
 replace H : ((spec_l20Rd_pick.f k s0_0 s0_1 4).bind fun bt121 => (if 0 ≤ bt121.1 then (if bt121.1 < (y118.length : Int) then ((spec_l20Rd_pick.f k s0_0 bt121.2 (rd y118 bt121.1)).bind fun bt124 => ((spec_l20Rd_pick.f k s0_0 bt124.2 (rd y118 bt121.1)).bind fun bt126 => ((spec_l20Rd_pick.f k s0_0 bt126.2 (rd y118 bt121.1)).bind fun bt128 => ((spec_LowestOf.f k (wrap64 (bt124.1 - bt126.1)) bt128.1).bind fun bt130 => (if bt130.2.2 = true then (spec_l20Fraction.j0 k a1 s0_0 bt128.2 bt130.1 bt130.2.1) else (spec_l20Fraction.j0 k a1 s0_0 bt128.2 1 0)))))) else (none)) else (none))) = some (r1, r2, r3) := by first | (rw [hy118]; with_reducible exact H) | (have H2_ := (Option.bind_some _ _).symm.trans H; rw [hy118]; with_reducible exact H2_) | (have H2_ := (Option.bind_some _ _).symm.trans H; with_reducible exact H2_) | with_reducible exact H | (rw [hy118]; exact H) | exact H
 have Ny118 := Aside0.mk hy118
 clear hy118
 replace H := Option.bind_eq_some_iff.mp H
 obtain ⟨⟨t121, t122⟩, A30, H⟩ := H
 replace H : (if 0 ≤ t121 then (if t121 < (y118.length : Int) then ((spec_l20Rd_pick.f k s0_0 t122 (rd y118 t121)).bind fun bt124 => ((spec_l20Rd_pick.f k s0_0 bt124.2 (rd y118 t121)).bind fun bt126 => ((spec_l20Rd_pick.f k s0_0 bt126.2 (rd y118 t121)).bind fun bt128 => ((spec_LowestOf.f k (wrap64 (bt124.1 - bt126.1)) bt128.1).bind fun bt130 => (if bt130.2.2 = true then (spec_l20Fraction.j0 k a1 s0_0 bt128.2 bt130.1 bt130.2.1) else (spec_l20Fraction.j0 k a1 s0_0 bt128.2 1 0)))))) else (none)) else (none)) = some (r1, r2, r3) := H
 have A3 := Aside0.mk A30
 clear A30
 by_cases c4 : 0 ≤ t121
 ·rw [if_pos c4] at H
  have c4b0 : decide (0 ≤ t121) = true := decide_eq_true c4
  clear c4
  by_cases c5 : t121 < (y118.length : Int)
  ·rw [if_pos c5] at H
   have c5b0 : decide (t121 < (y118.length : Int)) = true := decide_eq_true c5
   clear c5
   replace H := Option.bind_eq_some_iff.mp H
   obtain ⟨⟨t124, t125⟩, A60, H⟩ := H
   replace H : ((spec_l20Rd_pick.f k s0_0 t125 (rd y118 t121)).bind fun bt126 => ((spec_l20Rd_pick.f k s0_0 bt126.2 (rd y118 t121)).bind fun bt128 => ((spec_LowestOf.f k (wrap64 (t124 - bt126.1)) bt128.1).bind fun bt130 => (if bt130.2.2 = true then (spec_l20Fraction.j0 k a1 s0_0 bt128.2 bt130.1 bt130.2.1) else (spec_l20Fraction.j0 k a1 s0_0 bt128.2 1 0))))) = some (r1, r2, r3) := H
   have A6 := Aside0.mk A60
   clear A60
   replace H := Option.bind_eq_some_iff.mp H
   obtain ⟨⟨t126, t127⟩, A70, H⟩ := H
   replace H : ((spec_l20Rd_pick.f k s0_0 t127 (rd y118 t121)).bind fun bt128 => ((spec_LowestOf.f k (wrap64 (t124 - t126)) bt128.1).bind fun bt130 => (if bt130.2.2 = true then (spec_l20Fraction.j0 k a1 s0_0 bt128.2 bt130.1 bt130.2.1) else (spec_l20Fraction.j0 k a1 s0_0 bt128.2 1 0)))) = some (r1, r2, r3) := H
   have A7 := Aside0.mk A70
   clear A70
   replace H := Option.bind_eq_some_iff.mp H
   obtain ⟨⟨t128, t129⟩, A80, H⟩ := H
   replace H : ((spec_LowestOf.f k (wrap64 (t124 - t126)) t128).bind fun bt130 => (if bt130.2.2 = true then (spec_l20Fraction.j0 k a1 s0_0 t129 bt130.1 bt130.2.1) else (spec_l20Fraction.j0 k a1 s0_0 t129 1 0))) = some (r1, r2, r3) := H
   have A8 := Aside0.mk A80
   clear A80
   replace H := Option.bind_eq_some_iff.mp H
   obtain ⟨⟨t130, t131, t132⟩, A90, H⟩ := H
   replace H : (if t132 = true then (spec_l20Fraction.j0 k a1 s0_0 t129 t130 t131) else (spec_l20Fraction.j0 k a1 s0_0 t129 1 0)) = some (r1, r2, r3) := H
   have A9 := Aside0.mk A90
   clear A90
   have HC10 := Aside0.mk H
   clear H
   go_enter Try.func14, Try.ntmps14
   go_upto_if 28 with (first | ((with_reducible refine gate_dst (N := 4) rfl ?_); refine sqBox (N := 4) (cs := #[.int .i64 0, .int .i64 0]) (t := 24) ?_; intro gb117 hg w11 BK117 hb; replace HB := Aside0.mk (below_step (Z20 HI0) hb); have GW117 := Aside0.mk ((Z77 : w.heap.size ≤ gb117)); have GE117 := Aside0.mk ((Nat.le_trans HW0.out (Z77 : w.heap.size ≤ gb117) : w0.heap.size ≤ gb117)); replace HK := Aside0.mk (KeepBut.trans Z21 (KeepBut.of_below hb g none) (.inl rfl)); have NB0_117 := Aside0.mk ((Z35 HI0 : g ≠ gb117)); have NB117_0 := Aside0.mk ((Z36 HI0 : gb117 ≠ g)); replace HI0 := Aside0.mk (IsS46.below (Z19 HI0) hb); clear hb hg) | ((with_reducible refine gate_dst (N := 8) rfl ?_); refine Kd.R_lit (Kd.int .i64) _ 3 ?hg (N := 8) ?hd (xs := ([4, 10, 50, 1000] : List Int)) (inner := [.int .i64 4, .int .i64 10, .int .i64 50, .int .i64 1000]) (ok := fun _ => True) (okp := fun _ => True) ?hr ?hp (fun _ hk => hk) trivial (Below.refl _ _) (Nat.le_refl _) (by simp) ?_; (case hd => rfl); (case hg => rfl); (case hr => exact Z8); (case hp => exact (Reps.one (show Kd.M (Kd.int .i64) _ _ _ 4 [.int .i64 4] from rfl) (Reps.one (show Kd.M (Kd.int .i64) _ _ _ 10 [.int .i64 10] from rfl) (Reps.one (show Kd.M (Kd.int .i64) _ _ _ 50 [.int .i64 50] from rfl) (Reps.one (show Kd.M (Kd.int .i64) _ _ _ 1000 [.int .i64 1000] from rfl) (Reps.none _ _)))))); intro v119 w12 ho13 hb hg_ hnew_; clear hg_ hnew_; (first | rw [← Ny118.out] at ho13 | (simp only [Int.reduceToNat] at ho13; rw [← Ny118.out] at ho13)); have HO120 := Aside0.mk (Kd.R_lower ho13 (keep_size (w := w) (g := g) (row := none) (Z37 GW117))); replace BK117 := sqT BK117 hb; replace HK := Aside0.mk (KeepBut.trans (Z37 GW117) (KeepBut.of_below hb g none) (.inl rfl)); replace HB := Aside0.mk (below_step (Z28 HI0 GE117) hb); replace HI0 := Aside0.mk (IsS46.below (Z27 HI0 NB0_117) hb); clear hb ho13) | ((with_reducible refine gate_callee (f := 15) rfl ?_); refine goesL_ (some 10) rfl rfl Try.func15 (by kernel_rfl) rfl #[.pointer (some ⟨g, 0, none⟩), .int .i64 4] rfl sqA ?_; (with_reducible refine (spec_l20Rd_pick.calls k g s0_0 s0_1 4 t121 t122 w0 _ ?side1 ?side2 A3.out).mono ?_); (case side1 => exact Z27 HI0 NB0_117); (case side2 => exact Z28 HI0 GE117); rintro e w14 ⟨rfl, hi, hb, hk⟩; refine ⟨_, rfl, ?_⟩; replace BK117 := Aside0.mk (KeepBut.blk hk (g' := gb117) (o := .cells #[.int .i64 0, .int .i64 0] 24 (0, 0)) (sqK BK117) NB117_0.out (by simp)); replace HO120 := Aside0.mk (Kd.R_mono (Kd.R_keep (IsS46.apart (show IsS46 w0 _ g s0_0 s0_1 from by repeat (first | (with_reducible first | exact HI0.out | apply IsS46.alloc | apply IsS46.drewN | apply IsS46.drew | apply IsS46.set_1 | refine IsS46.far ?_ NB0_117.out _) | exact HI0.out)) (sqR HO120) (by decide)) hk (fun _ h => h.2)) (fun _ h => h.1)); replace HK := Aside0.mk (KeepBut.trans (Z37 GW117) hk (.inl rfl)); replace HB := Aside0.mk (hb); replace HI0 := Aside0.mk (hi); (try clear hb); obtain ⟨Ao15, co15, eo15⟩ := Kd.R_slice HO120.out; subst eo15; have p123 : 0 ≤ (t121 : Int) := of_decide_eq_true Z7; have q123 : t121 < (y118.length : Int) := of_decide_eq_true Z7; obtain ⟨ad123, e123, hx123_0⟩ := Kd.at_int (Kd.R_reads' HO120.out).2.2 t121 p123 q123; cases e123; replace p123 := eq_true p123; replace q123 := eq_true q123) | ((with_reducible refine gate_callee (f := 15) rfl ?_); refine goesL_ (some 16) rfl rfl Try.func15 (by kernel_rfl) rfl #[.pointer (some ⟨g, 0, none⟩), .int .i64 (rd y118 t121)] rfl sqA ?_; (with_reducible refine (spec_l20Rd_pick.calls k g s0_0 t122 (rd y118 t121) t124 t125 w0 _ ?side1 ?side2 A6.out).mono ?_); (case side1 => exact Z27 HI0 NB0_117); (case side2 => exact Z28 HI0 GE117); rintro e w16 ⟨rfl, hi, hb, hk⟩; refine ⟨_, rfl, ?_⟩; replace BK117 := Aside0.mk (KeepBut.blk hk (g' := gb117) (o := .cells #[.int .i64 0, .int .i64 0] 24 (0, 0)) (sqK BK117) NB117_0.out (by simp)); replace HO120 := Aside0.mk (Kd.R_mono (Kd.R_keep (IsS46.apart (show IsS46 w0 _ g s0_0 t122 from by repeat (first | (with_reducible first | exact HI0.out | apply IsS46.alloc | apply IsS46.drewN | apply IsS46.drew | apply IsS46.set_1 | refine IsS46.far ?_ NB0_117.out _) | exact HI0.out)) (sqR HO120) (by decide)) hk (fun _ h => h.2)) (fun _ h => h.1)); replace HK := Aside0.mk (KeepBut.trans (Z37 GW117) hk (.inl rfl)); replace HB := Aside0.mk (hb); replace HI0 := Aside0.mk (hi); (try clear hb)) | ((with_reducible refine gate_callee (f := 15) rfl ?_); refine goesL_ (some 19) rfl rfl Try.func15 (by kernel_rfl) rfl #[.pointer (some ⟨g, 0, none⟩), .int .i64 (rd y118 t121)] rfl sqA ?_; (with_reducible refine (spec_l20Rd_pick.calls k g s0_0 t125 (rd y118 t121) t126 t127 w0 _ ?side1 ?side2 A7.out).mono ?_); (case side1 => exact Z27 HI0 NB0_117); (case side2 => exact Z28 HI0 GE117); rintro e w17 ⟨rfl, hi, hb, hk⟩; refine ⟨_, rfl, ?_⟩; replace BK117 := Aside0.mk (KeepBut.blk hk (g' := gb117) (o := .cells #[.int .i64 0, .int .i64 0] 24 (0, 0)) (sqK BK117) NB117_0.out (by simp)); replace HO120 := Aside0.mk (Kd.R_mono (Kd.R_keep (IsS46.apart (show IsS46 w0 _ g s0_0 t125 from by repeat (first | (with_reducible first | exact HI0.out | apply IsS46.alloc | apply IsS46.drewN | apply IsS46.drew | apply IsS46.set_1 | refine IsS46.far ?_ NB0_117.out _) | exact HI0.out)) (sqR HO120) (by decide)) hk (fun _ h => h.2)) (fun _ h => h.1)); replace HK := Aside0.mk (KeepBut.trans (Z37 GW117) hk (.inl rfl)); replace HB := Aside0.mk (hb); replace HI0 := Aside0.mk (hi); (try clear hb)) | ((with_reducible refine gate_callee (f := 15) rfl ?_); refine goesL_ (some 23) rfl rfl Try.func15 (by kernel_rfl) rfl #[.pointer (some ⟨g, 0, none⟩), .int .i64 (rd y118 t121)] rfl sqA ?_; (with_reducible refine (spec_l20Rd_pick.calls k g s0_0 t127 (rd y118 t121) t128 t129 w0 _ ?side1 ?side2 A8.out).mono ?_); (case side1 => exact Z27 HI0 NB0_117); (case side2 => exact Z28 HI0 GE117); rintro e w18 ⟨rfl, hi, hb, hk⟩; refine ⟨_, rfl, ?_⟩; replace BK117 := Aside0.mk (KeepBut.blk hk (g' := gb117) (o := .cells #[.int .i64 0, .int .i64 0] 24 (0, 0)) (sqK BK117) NB117_0.out (by simp)); replace HO120 := Aside0.mk (Kd.R_mono (Kd.R_keep (IsS46.apart (show IsS46 w0 _ g s0_0 t127 from by repeat (first | (with_reducible first | exact HI0.out | apply IsS46.alloc | apply IsS46.drewN | apply IsS46.drew | apply IsS46.set_1 | refine IsS46.far ?_ NB0_117.out _) | exact HI0.out)) (sqR HO120) (by decide)) hk (fun _ h => h.2)) (fun _ h => h.1)); replace HK := Aside0.mk (KeepBut.trans (Z37 GW117) hk (.inl rfl)); replace HB := Aside0.mk (hb); replace HI0 := Aside0.mk (hi); (try clear hb)) | ((with_reducible refine gate_callee (f := 24) rfl ?_); refine goesL_ (some 24) rfl rfl Try.func24 (by kernel_rfl) rfl #[.int .i64 (wrap64 (t124 - t126)), .int .i64 t128] rfl sqA ?_; (with_reducible refine (spec_LowestOf.calls k (wrap64 (t124 - t126)) t128 t130 t131 t132 _ A9.out).mono ?_); rintro e w19 ⟨rfl, hb⟩; refine ⟨_, rfl, ?_⟩; replace HO120 := sqU HO120 hb; replace BK117 := sqT BK117 hb; replace HK := Aside0.mk (KeepBut.trans (Z37 GW117) (KeepBut.of_below hb g none) (.inl rfl)); replace HB := Aside0.mk (below_step (Z28 HI0 GE117) hb); replace HI0 := Aside0.mk (IsS46.below (Z27 HI0 NB0_117) hb); (try clear hb)) | ((with_reducible refine gate_dst (N := 6) rfl ?_); refine sqBox (N := 6) (cs := #[.int .i64 0, .int .i64 0]) (t := 24) ?_; intro gb133 hg w20 BK133 hb; replace HO120 := sqU HO120 hb; replace HB := Aside0.mk (below_step (Z28 HI0 GE117) hb); have GW133 := Aside0.mk ((Z78 GW117 : w.heap.size ≤ gb133)); have GE133 := Aside0.mk ((Nat.le_trans HW0.out (Z78 GW117 : w.heap.size ≤ gb133) : w0.heap.size ≤ gb133)); replace HK := Aside0.mk (KeepBut.trans (Z37 GW117) (KeepBut.of_below hb g none) (.inl rfl)); obtain ⟨NB117_133, NB133_117⟩ := sqM hg BK117; replace BK117 := sqT BK117 hb; have NB0_133 := Aside0.mk ((by rw [hg]; exact Nat.ne_of_lt (IsS46.lt (show IsS46 w0 _ g s0_0 t129 from by repeat (first | (with_reducible first | exact HI0.out | apply IsS46.alloc | apply IsS46.drewN | apply IsS46.drew | apply IsS46.set_1 | refine IsS46.far ?_ NB0_117.out _) | exact HI0.out))) : g ≠ gb133)); have NB133_0 := Aside0.mk ((by rw [hg]; exact Nat.ne_of_gt (IsS46.lt (show IsS46 w0 _ g s0_0 t129 from by repeat (first | (with_reducible first | exact HI0.out | apply IsS46.alloc | apply IsS46.drewN | apply IsS46.drew | apply IsS46.set_1 | refine IsS46.far ?_ NB0_117.out _) | exact HI0.out))) : gb133 ≠ g)); replace HI0 := Aside0.mk (IsS46.below (Z27 HI0 NB0_117) hb); clear hb hg; have hnb21 := NB133_117.out; have hnc21 := NB117_133.out; have hnb22 := NB133_0.out; have hnc22 := NB0_133.out; obtain ⟨hcz23_0, hcz23_1, hfz23_0, hfz23_1⟩ := sqY2 BK133))
   (try simp only [Act.put, List.setIfInBounds_toArray, List.set_cons_zero, List.set_cons_succ])
   go_cut [] (fun wc => ∃ (kq : Nat) (x134000_9 : Int) (x134001_9 : Int), Aside0 (spec_l20Fraction.j0 kq a1 s0_0 t129 x134000_9 x134001_9 = some (r1, r2, r3)) ∧ Aside0 (kq ≤ k) ∧ Aside0 (wc.heap[gb117]? = some (.cells #[.int .i64 0, .int .i64 0] 24 (0, 0))) ∧ Aside0 (wc.heap[gb133]? = some (.cells #[.int .i64 x134000_9, .int .i64 x134001_9] 24 (0, 0))) ∧ Aside0 (IsS46 w0 wc g s0_0 t129) ∧ Aside0 (KeepBut w wc g none) ∧ Aside0 (Below w0.heap.size w0 wc))
   case first =>
    have H := HC10.out
    clear HC10
    by_cases c24 : t132 = true
    ·subst c24
     have H1 : (spec_l20Fraction.j0 k a1 s0_0 t129 t130 t131) = some (r1, r2, r3) := by rw [if_pos rfl] at H; exact H
     clear H
     have H := H1
     clear H1
     have H' := Aside0.mk H
     clear H
     go_wp2
     go_meet
     case rel => exact ⟨_, (t130), (t131), H', ⟨Z3⟩, ⟨Z9 NB117_133 BK117⟩, ⟨by refine sqPut (cs := #[.int .i64 t130, .int .i64 0]) ?_ 1; refine sqPut (cs := #[.int .i64 0, .int .i64 0]) ?_ 0; exact sqK BK133⟩, ⟨Z38 HI0 NB0_117 NB0_133⟩, ⟨Z40 GW117 GW133⟩, ⟨Z39 HI0 GE117 GE133⟩⟩
    ·replace c24 := Bool.eq_false_iff.mpr c24
     subst c24
     have H1 : (spec_l20Fraction.j0 k a1 s0_0 t129 1 0) = some (r1, r2, r3) := by rw [if_neg (show ¬ (false = true) by decide)] at H; exact H
     clear H
     have H := H1
     clear H1
     have H' := Aside0.mk H
     clear H
     have hnb25 := NB133_117.out
     have hnc25 := NB117_133.out
     have hnb26 := NB133_0.out
     have hnc26 := NB0_133.out
     obtain ⟨hcz27_0, hcz27_1, hfz27_0, hfz27_1⟩ := sqY2 BK133
     go_wp2
     go_meet
     case rel => exact ⟨_, (1), (0), H', ⟨Z3⟩, ⟨by refine sqFar ?_ NB117_133; refine sqFar ?_ NB117_133; refine sqFar ?_ NB117_133; refine sqFar ?_ NB117_133; exact sqK BK117⟩, ⟨by refine sqPut (cs := #[.int .i64 1, .int .i64 t131]) ?_ 1; refine sqPut (cs := #[.int .i64 t130, .int .i64 t131]) ?_ 0; refine sqPut (cs := #[.int .i64 t130, .int .i64 0]) ?_ 1; refine sqPut (cs := #[.int .i64 0, .int .i64 0]) ?_ 0; exact sqK BK133⟩, ⟨Z38 HI0 NB0_117 NB0_133⟩, ⟨Z40 GW117 GW133⟩, ⟨Z39 HI0 GE117 GE133⟩⟩
   case rest =>
    clear HC10
    try clear c1; try clear p1; try clear q1; try clear hx1; try clear c2; try clear p2; try clear c4; try clear c4b0; try clear c5; try clear c5b0; try clear p6; try clear p12; try clear q12; try clear hx12; try clear c14; try clear c15; try clear c21; try clear c22; try clear c24; try clear c25; try clear c26; try clear hcz23_0; try clear hcz23_1; try clear hcz27_0; try clear hcz27_1; try clear hfz23_0; try clear hfz23_1; try clear hfz27_0; try clear hfz27_1; try clear hx123_0; try clear p123; try clear q123
    obtain ⟨kq, x134000_9, x134001_9, HA, HJ9, BK117, BK133, HI0, HK, HB⟩ := hcut
    cases kq with
    | zero => exact absurd HA.out (by simp [spec_l20Fraction.j0])
    | succ kj9 =>
     have H := HA.out
     clear HA
     simp only [spec_l20Fraction.j0] at H
     replace H := Option.bind_eq_some_iff.mp H
     obtain ⟨⟨t134, t135⟩, A280, H⟩ := H
     replace H : (if t134 = true then ((some (([(⟨0, 0⟩ : S24), (⟨2, 4⟩ : S24), (⟨1, (-2)⟩ : S24), (⟨(-1), 0⟩ : S24), (⟨1000001, 1⟩ : S24)] : List (S24)) : List (S24))).bind fun y136 => ((spec_l20Rd_pick.f kj9 s0_0 t135 5).bind fun bt139 => (if 0 ≤ bt139.1 then (if bt139.1 < (y136.length : Int) then (some ((rd_T24 y136 bt139.1).f0, (rd_T24 y136 bt139.1).f1, bt139.2)) else (none)) else (none)))) else (some (x134000_9, x134001_9, t135))) = some (r1, r2, r3) := H
     have A28 := Aside0.mk A280
     clear A280
     by_cases c29 : t134 = true
     ·subst c29
      have H1 : ((some (([(⟨0, 0⟩ : S24), (⟨2, 4⟩ : S24), (⟨1, (-2)⟩ : S24), (⟨(-1), 0⟩ : S24), (⟨1000001, 1⟩ : S24)] : List (S24)) : List (S24))).bind fun y136 => ((spec_l20Rd_pick.f kj9 s0_0 t135 5).bind fun bt139 => (if 0 ≤ bt139.1 then (if bt139.1 < (y136.length : Int) then (some ((rd_T24 y136 bt139.1).f0, (rd_T24 y136 bt139.1).f1, bt139.2)) else (none)) else (none)))) = some (r1, r2, r3) := by rw [if_pos rfl] at H; exact H
      clear H
      have H := H1
      clear H1
      obtain ⟨y136, hy136⟩ : ∃ y_ : List (S24), y_ = (([(⟨0, 0⟩ : S24), (⟨2, 4⟩ : S24), (⟨1, (-2)⟩ : S24), (⟨(-1), 0⟩ : S24), (⟨1000001, 1⟩ : S24)] : List (S24))) := ⟨_, rfl⟩
      replace H : ((spec_l20Rd_pick.f kj9 s0_0 t135 5).bind fun bt139 => (if 0 ≤ bt139.1 then (if bt139.1 < (y136.length : Int) then (some ((rd_T24 y136 bt139.1).f0, (rd_T24 y136 bt139.1).f1, bt139.2)) else (none)) else (none))) = some (r1, r2, r3) := by first | (rw [hy136]; with_reducible exact H) | (have H2_ := (Option.bind_some _ _).symm.trans H; rw [hy136]; with_reducible exact H2_) | (have H2_ := (Option.bind_some _ _).symm.trans H; with_reducible exact H2_) | with_reducible exact H | (rw [hy136]; exact H) | exact H
      have Ny136 := Aside0.mk hy136
      clear hy136
      replace H := Option.bind_eq_some_iff.mp H
      obtain ⟨⟨t139, t140⟩, A300, H⟩ := H
      replace H : (if 0 ≤ t139 then (if t139 < (y136.length : Int) then (some ((rd_T24 y136 t139).f0, (rd_T24 y136 t139).f1, t140)) else (none)) else (none)) = some (r1, r2, r3) := H
      have A30 := Aside0.mk A300
      clear A300
      by_cases c31 : 0 ≤ t139
      ·rw [if_pos c31] at H
       have c31b0 : decide (0 ≤ t139) = true := decide_eq_true c31
       clear c31
       by_cases c32 : t139 < (y136.length : Int)
       ·rw [if_pos c32] at H
        have c32b0 : decide (t139 < (y136.length : Int)) = true := decide_eq_true c32
        clear c32
        simp only [Option.some.injEq, Prod.mk.injEq] at H
        obtain ⟨rfl, rfl, rfl⟩ := H
        go_wp2_with (first | ((with_reducible refine gate_callee (f := 18) rfl ?_); refine goesL_ (some 32) rfl rfl Try.func18 (by kernel_rfl) rfl #[.pointer (some ⟨g, 0, none⟩), .int .i64 a1] rfl sqA ?_; (with_reducible refine (spec_l20Rd_odd.calls kj9 g s0_0 t129 a1 true t135 w0 _ ?side1 ?side2 A28.out).mono ?_); (case side1 => exact Z38 HI0 NB0_117 NB0_133); (case side2 => exact Z39 HI0 GE117 GE133); rintro e w33 ⟨rfl, hi, hb, hk⟩; refine ⟨_, rfl, ?_⟩; replace BK117 := Aside0.mk (KeepBut.blk hk (g' := gb117) (o := .cells #[.int .i64 0, .int .i64 0] 24 (0, 0)) (sqK BK117) NB117_0.out (by simp)); replace BK133 := Aside0.mk (KeepBut.blk hk (g' := gb133) (o := .cells #[.int .i64 x134000_9, .int .i64 x134001_9] 24 (0, 0)) (sqK BK133) NB133_0.out (by simp)); replace HK := Aside0.mk (KeepBut.trans (Z40 GW117 GW133) hk (.inl rfl)); replace HB := Aside0.mk (hb); replace HI0 := Aside0.mk (hi); (try clear hb)) | ((with_reducible refine gate_dst (N := 38) rfl ?_); refine Kd.R_lit k24 _ 24 ?hg (N := 38) ?hd (xs := ([(⟨0, 0⟩ : S24), (⟨2, 4⟩ : S24), (⟨1, (-2)⟩ : S24), (⟨(-1), 0⟩ : S24), (⟨1000001, 1⟩ : S24)] : List (S24))) (inner := [.int .i64 0, .int .i64 0, .int .i64 2, .int .i64 4, .int .i64 1, .int .i64 (-2), .int .i64 (-1), .int .i64 0, .int .i64 1000001, .int .i64 1]) (ok := fun _ => True) (okp := fun _ => True) ?hr ?hp (fun _ hk => hk) trivial (Below.refl _ _) (Nat.le_refl _) (by simp) ?_; (case hd => rfl); (case hg => rfl); (case hr => exact Z8); (case hp => exact (Reps.c2 (show Kd.M k24 _ _ _ (⟨0, 0⟩ : S24) [.int .i64 0, .int .i64 0] from (k24_mkM _ _ _ (⟨0, 0⟩ : S24) )) (Reps.c2 (show Kd.M k24 _ _ _ (⟨2, 4⟩ : S24) [.int .i64 2, .int .i64 4] from (k24_mkM _ _ _ (⟨2, 4⟩ : S24) )) (Reps.c2 (show Kd.M k24 _ _ _ (⟨1, (-2)⟩ : S24) [.int .i64 1, .int .i64 (-2)] from (k24_mkM _ _ _ (⟨1, (-2)⟩ : S24) )) (Reps.c2 (show Kd.M k24 _ _ _ (⟨(-1), 0⟩ : S24) [.int .i64 (-1), .int .i64 0] from (k24_mkM _ _ _ (⟨(-1), 0⟩ : S24) )) (Reps.c2 (show Kd.M k24 _ _ _ (⟨1000001, 1⟩ : S24) [.int .i64 1000001, .int .i64 1] from (k24_mkM _ _ _ (⟨1000001, 1⟩ : S24) )) (Reps.none _ _))))))); intro v137 w34 ho35 hb hg_ hnew_; clear hg_ hnew_; (first | rw [← Ny136.out] at ho35 | (simp only [Int.reduceToNat] at ho35; rw [← Ny136.out] at ho35)); have HO138 := Aside0.mk (Kd.R_lower (Kd.R_newB (Kd.R_newB ho35 (sqK BK117)) (sqK BK133)) (keep_size (w := w) (g := g) (row := none) (Z40 GW117 GW133))); replace BK117 := sqT BK117 hb; replace BK133 := sqT BK133 hb; replace HK := Aside0.mk (KeepBut.trans (Z40 GW117 GW133) (KeepBut.of_below hb g none) (.inl rfl)); replace HB := Aside0.mk (below_step (Z39 HI0 GE117 GE133) hb); replace HI0 := Aside0.mk (IsS46.below (Z38 HI0 NB0_117 NB0_133) hb); clear hb ho35) | ((with_reducible refine gate_callee (f := 15) rfl ?_); refine goesL_ (some 40) rfl rfl Try.func15 (by kernel_rfl) rfl #[.pointer (some ⟨g, 0, none⟩), .int .i64 5] rfl sqA ?_; (with_reducible refine (spec_l20Rd_pick.calls kj9 g s0_0 t135 5 t139 t140 w0 _ ?side1 ?side2 A30.out).mono ?_); (case side1 => exact Z38 HI0 NB0_117 NB0_133); (case side2 => exact Z39 HI0 GE117 GE133); rintro e w36 ⟨rfl, hi, hb, hk⟩; refine ⟨_, rfl, ?_⟩; replace BK117 := Aside0.mk (KeepBut.blk hk (g' := gb117) (o := .cells #[.int .i64 0, .int .i64 0] 24 (0, 0)) (sqK BK117) NB117_0.out (by simp)); replace BK133 := Aside0.mk (KeepBut.blk hk (g' := gb133) (o := .cells #[.int .i64 x134000_9, .int .i64 x134001_9] 24 (0, 0)) (sqK BK133) NB133_0.out (by simp)); replace HO138 := Aside0.mk (Kd.R_mono (Kd.R_keep (IsS46.apart (show IsS46 w0 _ g s0_0 t135 from by repeat (first | (with_reducible first | exact HI0.out | apply IsS46.alloc | apply IsS46.drewN | apply IsS46.drew | apply IsS46.set_1 | refine IsS46.far ?_ NB0_117.out _ | refine IsS46.far ?_ NB0_133.out _) | exact HI0.out)) (sqR HO138) (by decide)) hk (fun _ h => h.2)) (fun _ h => h.1)); replace HK := Aside0.mk (KeepBut.trans (Z40 GW117 GW133) hk (.inl rfl)); replace HB := Aside0.mk (hb); replace HI0 := Aside0.mk (hi); (try clear hb); obtain ⟨Ao37, co37, eo37⟩ := Kd.R_slice HO138.out; subst eo37; have p141 : 0 ≤ (t139 : Int) := of_decide_eq_true Z7; have q141 : t139 < (y136.length : Int) := of_decide_eq_true Z7; obtain ⟨ad141, e141, hx141_0, hx141_1⟩ := at_T24 (Kd.R_reads' HO138.out).2.2 t139 p141 q141; cases e141; replace p141 := eq_true p141; replace q141 := eq_true q141; have hnb38 := NB117_133.out; have hnc38 := NB133_117.out; have hnb39 := NB117_0.out; have hnc39 := NB0_117.out; obtain ⟨hcz40_0, hcz40_1, hfz40_0, hfz40_1⟩ := sqY2 BK117))
        refine bodyPost_ret (results_cell_row rfl _ _ gb117 24 #[.int .i64 ((rd_T24 y136 t139).f0), .int .i64 ((rd_T24 y136 t139).f1)] (0, 0) _ rfl (by refine sqPut (cs := #[.int .i64 ((rd_T24 y136 t139).f0), .int .i64 0]) ?_ 1; refine sqPut (cs := #[.int .i64 0, .int .i64 0]) ?_ 0; exact sqK BK117) Try.underlying24 rfl (by kernel_rfl)) rfl ?_
        exact ⟨Z14, Z38 HI0 NB0_117 NB0_133, Z39 HI0 GE117 GE133, Z40 GW117 GW133⟩
       ·rw [if_neg c32] at H
        exact absurd H (by simp)
      ·rw [if_neg c31] at H
       exact absurd H (by simp)
     ·replace c29 := Bool.eq_false_iff.mpr c29
      subst c29
      have H1 : (some (x134000_9, x134001_9, t135)) = some (r1, r2, r3) := by rw [if_neg (show ¬ (false = true) by decide)] at H; exact H
      clear H
      have H := H1
      clear H1
      simp only [Option.some.injEq, Prod.mk.injEq] at H
      obtain ⟨rfl, rfl, rfl⟩ := H
      go_wp2_with (first | ((with_reducible refine gate_callee (f := 18) rfl ?_); refine goesL_ (some 32) rfl rfl Try.func18 (by kernel_rfl) rfl #[.pointer (some ⟨g, 0, none⟩), .int .i64 a1] rfl sqA ?_; (with_reducible refine (spec_l20Rd_odd.calls kj9 g s0_0 t129 a1 false t135 w0 _ ?side1 ?side2 A28.out).mono ?_); (case side1 => exact Z38 HI0 NB0_117 NB0_133); (case side2 => exact Z39 HI0 GE117 GE133); rintro e w41 ⟨rfl, hi, hb, hk⟩; refine ⟨_, rfl, ?_⟩; replace BK117 := Aside0.mk (KeepBut.blk hk (g' := gb117) (o := .cells #[.int .i64 0, .int .i64 0] 24 (0, 0)) (sqK BK117) NB117_0.out (by simp)); replace BK133 := Aside0.mk (KeepBut.blk hk (g' := gb133) (o := .cells #[.int .i64 x134000_9, .int .i64 x134001_9] 24 (0, 0)) (sqK BK133) NB133_0.out (by simp)); replace HK := Aside0.mk (KeepBut.trans (Z40 GW117 GW133) hk (.inl rfl)); replace HB := Aside0.mk (hb); replace HI0 := Aside0.mk (hi); (try clear hb); have hnb42 := NB133_117.out; have hnc42 := NB117_133.out; have hnb43 := NB133_0.out; have hnc43 := NB0_133.out; obtain ⟨hcz44_0, hcz44_1, hfz44_0, hfz44_1⟩ := sqY2 BK133; have hnb45 := NB117_0.out; have hnc45 := NB0_117.out; obtain ⟨hcz46_0, hcz46_1, hfz46_0, hfz46_1⟩ := sqY2 BK117))
      refine bodyPost_ret (results_cell_row rfl _ _ gb117 24 #[.int .i64 x134000_9, .int .i64 x134001_9] (0, 0) _ rfl (by refine sqPut (cs := #[.int .i64 x134000_9, .int .i64 0]) ?_ 1; refine sqPut (cs := #[.int .i64 0, .int .i64 0]) ?_ 0; exact sqK BK117) Try.underlying24 rfl (by kernel_rfl)) rfl ?_
      exact ⟨Z14, Z38 HI0 NB0_117 NB0_133, Z39 HI0 GE117 GE133, Z40 GW117 GW133⟩
  ·rw [if_neg c5] at H
   exact absurd H (by simp)
 ·rw [if_neg c4] at H
  exact absurd H (by simp)

end Go.Proofs.Ytcfnihniaakbeaa.PFnDeskOk
