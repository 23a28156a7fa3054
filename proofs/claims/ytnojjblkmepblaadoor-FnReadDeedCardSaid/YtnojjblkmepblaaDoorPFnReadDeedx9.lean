/- Lean functions of the Go functions that the law FnReadDeed reaches, each with its contract: made by a program of this session. -/
import Derived.Test.YtnojjblkmepblaaDoorPFnReadDeedx0
import Derived.Test.YtnojjblkmepblaaDoorPFnReadDeedx3
import Derived.Test.YtnojjblkmepblaaDoorPFnReadDeedx4
import Derived.Test.YtnojjblkmepblaaDoorPFnReadDeedx8
namespace Go.Proofs.YtnojjblkmepblaaDoor.PFnReadDeed
open Go.RowKit Go.Proofs.YtnojjblkmepblaaDoorW.PrintWords Go.Proofs.YtnojjblkmepblaaDoorW.PrintLast Go.Proofs.YtnojjblkmepblaaDoorW.PrintMore Go.Proofs.YtnojjblkmepblaaDoor.Lib
attribute [local go_sem] max2_int min2_int max_two min_two max_three min_three max_four min_four   -- for this text's walks alone
set_option linter.unusedVariables false
set_option linter.unusedSimpArgs false

/-! ### spec_LowestOf: function 63 -/
def spec_LowestOf.j0 : Nat → Int → Int → Bool → Option (Int × Int × Bool)
  | 0, _, _, _ => none
  | k + 1, x0, x1, x22 => if x22 = true then (some (0, 0, false)) else ((spec_l1Common.f k x0 x1).bind fun t243 => (if x1 < 0 then (if (wrap64 (-t243)) = 0 then (none) else (some (wrap64 (Int.tdiv x0 (wrap64 (-t243))), wrap64 (Int.tdiv x1 (wrap64 (-t243))), true))) else (if x1 = 0 then (if x0 < 0 then (if (wrap64 (-t243)) = 0 then (none) else (some (wrap64 (Int.tdiv x0 (wrap64 (-t243))), wrap64 (Int.tdiv x1 (wrap64 (-t243))), true))) else (if t243 = 0 then (none) else (some (wrap64 (Int.tdiv x0 t243), wrap64 (Int.tdiv x1 t243), true)))) else (if t243 = 0 then (none) else (some (wrap64 (Int.tdiv x0 t243), wrap64 (Int.tdiv x1 t243), true))))))
def spec_LowestOf.f (k : Nat) (a0 : Int) (a1 : Int) : Option (Int × Int × Bool) := (spec_l1In.f a0 (-1000000) 1000000).bind fun t241 => (if t241 = true then ((spec_l1In.f a1 (-1000000) 1000000).bind fun t242 => (if t242 = true then (if a0 = 0 then (spec_LowestOf.j0 k a0 a1 (a1 == 0)) else (spec_LowestOf.j0 k a0 a1 false)) else (spec_LowestOf.j0 k a0 a1 true))) else (spec_LowestOf.j0 k a0 a1 true))
theorem spec_LowestOf.mono_l : ∀ k, (∀ y0 y1 y2, LeO (spec_LowestOf.j0 k y0 y1 y2) (spec_LowestOf.j0 (k + 1) y0 y1 y2))
  | 0 => fun _ _ _ r h => by simp [spec_LowestOf.j0] at h
  | k + 1 => by
    have ih0 := spec_LowestOf.mono_l k
    · intro y0 y1 y2
      unfold spec_LowestOf.j0
      repeat' first
      | (with_reducible exact ih0 _ _ _)
      | (with_reducible exact spec_l1Common.mono _ _ _)
      | (with_reducible exact LeO.refl _)
      | (with_reducible exact LeO.none _)
      | (with_reducible refine LeO.ite ?_ ?_)
      | (with_reducible refine LeO.bind ?_ (fun _ => ?_))
      | exact ih0 _ _ _
      | exact spec_l1Common.mono _ _ _
      | exact LeO.none _
      | refine LeO.ite ?_ ?_
      | refine LeO.bind ?_ (fun _ => ?_)
theorem spec_LowestOf.mono : ∀ a0 a1 k, LeO (spec_LowestOf.f k a0 a1) (spec_LowestOf.f (k + 1) a0 a1) := by
  intro a0 a1 k
  have ih0 := spec_LowestOf.mono_l k
  unfold spec_LowestOf.f
  repeat' first
      | (with_reducible exact ih0 _ _ _)
      | (with_reducible exact spec_l1Common.mono _ _ _)
      | (with_reducible exact LeO.refl _)
      | (with_reducible exact LeO.none _)
      | (with_reducible refine LeO.ite ?_ ?_)
      | (with_reducible refine LeO.bind ?_ (fun _ => ?_))
      | exact ih0 _ _ _
      | exact spec_l1Common.mono _ _ _
      | exact LeO.none _
      | refine LeO.ite ?_ ?_
      | refine LeO.bind ?_ (fun _ => ?_)
def spec_LowestOf.T6 : Bool × List (List Nat × List Nat) := (true, [([], []), ([], []), ([0, 1], [0, 1]), ([], []), ([], []), ([3, 4], [3, 4]), ([2, 5], [2, 5]), ([6, 0, 1, 2, 3, 4, 5, 6], [6]), ([7, 0, 1, 2, 3, 4, 5, 6, 7], [])])
def spec_LowestOf.B6 : List Nat := [0, 0, 3, 0, 0, 24, 63, 127, 255]
theorem spec_LowestOf.tab6 : rtab .any (opsOf Tryd.f63 6) = spec_LowestOf.T6 := by kernel_rfl
theorem spec_LowestOf.bits6 : waitsOk spec_LowestOf.T6.2 spec_LowestOf.B6 = true := by kernel_rfl
set_option maxHeartbeats 8000000 in
set_option maxRecDepth 100000 in
theorem spec_LowestOf.calls (k : Nat) (a0 : Int) (a1 : Int) (r1 : Int) (r2 : Int) (r3 : Bool) (w : World) (h : spec_LowestOf.f k a0 a1 = some (r1, r2, r3)) :
    Calls Tryd.prog 63 #[.int .i64 a0, .int .i64 a1] w fun e w' => e = .returned (.tuple #[.agg #[.int .i64 r1, .int .i64 r2], .bool r3]) ∧ Below w.heap.size w w' := by
  have hu50 := Tryd.underlying50
  have HB := Aside0.mk (Below.refl w.heap.size w)
  have H : ((spec_l1In.f a0 (-1000000) 1000000).bind fun t241 => (if t241 = true then ((spec_l1In.f a1 (-1000000) 1000000).bind fun t242 => (if t242 = true then (if a0 = 0 then (spec_LowestOf.j0 k a0 a1 (a1 == 0)) else (spec_LowestOf.j0 k a0 a1 false)) else (spec_LowestOf.j0 k a0 a1 true))) else (spec_LowestOf.j0 k a0 a1 true))) = some (r1, r2, r3) := h
  clear h
  have HC3 := Aside0.mk H
  clear H
  go_enter Tryd.func63, Tryd.ntmps63
  go_upto_region 1 with (first | ((with_reducible refine gate_dst (N := 4) rfl ?_); refine box_event ?hg (N := 4) ?hd (cs := #[.int .i64 0, .int .i64 0]) (t := 50) ?hr ?_; (case hd => rfl); (case hg => rfl); (case hr => first | (go_simp; done) | (go_simp; rfl)); intro gb240 hg w4 hbox hb; have BK240 := Aside0.mk (hbox); have GW240 := Aside0.mk ((sqG hg (sqB HB))); have GE240 := Aside0.mk ((sqG hg (sqB HB))); replace HB := sqS (sqB HB) hb; clear hb hbox hg))
  (try simp only [Act.put, List.setIfInBounds_toArray, List.set_cons_zero, List.set_cons_succ])
  go_cut [22] (fun v22 wc => ∃ (kq : Nat) (x22_2 : Bool), v22 = .bool x22_2 ∧ Aside0 (spec_LowestOf.j0 kq a0 a1 x22_2 = some (r1, r2, r3)) ∧ Aside0 (kq ≤ k) ∧ Aside0 (wc.heap[gb240]? = some (.cells #[.int .i64 0, .int .i64 0] 50 (0, 0))) ∧ Aside0 (Below w.heap.size w wc))
  case first =>
    have H := HC3.out
    clear HC3
    replace H := Option.bind_eq_some_iff.mp H
    obtain ⟨t241, A50, H⟩ := H
    replace H : (if t241 = true then ((spec_l1In.f a1 (-1000000) 1000000).bind fun t242 => (if t242 = true then (if a0 = 0 then (spec_LowestOf.j0 k a0 a1 (a1 == 0)) else (spec_LowestOf.j0 k a0 a1 false)) else (spec_LowestOf.j0 k a0 a1 true))) else (spec_LowestOf.j0 k a0 a1 true)) = some (r1, r2, r3) := H
    have A5 := Aside0.mk A50
    clear A50
    by_cases c6 : t241 = true
    · subst c6
      have H1 : ((spec_l1In.f a1 (-1000000) 1000000).bind fun t242 => (if t242 = true then (if a0 = 0 then (spec_LowestOf.j0 k a0 a1 (a1 == 0)) else (spec_LowestOf.j0 k a0 a1 false)) else (spec_LowestOf.j0 k a0 a1 true))) = some (r1, r2, r3) := by rw [if_pos rfl] at H; exact H
      clear H
      have H := H1
      clear H1
      replace H := Option.bind_eq_some_iff.mp H
      obtain ⟨t242, A70, H⟩ := H
      replace H : (if t242 = true then (if a0 = 0 then (spec_LowestOf.j0 k a0 a1 (a1 == 0)) else (spec_LowestOf.j0 k a0 a1 false)) else (spec_LowestOf.j0 k a0 a1 true)) = some (r1, r2, r3) := H
      have A7 := Aside0.mk A70
      clear A70
      by_cases c8 : t242 = true
      · subst c8
        have H1 : (if a0 = 0 then (spec_LowestOf.j0 k a0 a1 (a1 == 0)) else (spec_LowestOf.j0 k a0 a1 false)) = some (r1, r2, r3) := by rw [if_pos rfl] at H; exact H
        clear H
        have H := H1
        clear H1
        by_cases c9 : a0 = 0
        · rw [if_pos c9] at H
          have c9b0 : (a0 == 0) = true := beq_iff_eq.mpr c9
          have c9b1 : (a0 != 0) = false := bne_eq_false_iff_eq.mpr c9
          clear c9
          (first | rw [c9b0] | (simp only [i64_w, i32_w]; rw [c9b0]) | skip)
          have H' := Aside0.mk H
          clear H
          go_wp2_with (first | ((with_reducible refine gate_callee (f := 55) rfl ?_); refine goesL_ (some 8) rfl rfl Tryd.func55 (by kernel_rfl) rfl #[.int .i64 a0, .int .i64 (-1000000), .int .i64 1000000] rfl sqA ?_; (with_reducible refine (spec_l1In.calls a0 (-1000000) 1000000 true _ A5.out).mono ?_); rintro e w' ⟨rfl, ⟨nd, rfl⟩⟩; refine ⟨_, rfl, ?_⟩) | (go_at_call 55; (with_reducible refine (spec_l1In.calls a1 (-1000000) 1000000 true _ A7.out).mono ?_); rintro e w' ⟨rfl, ⟨nd, rfl⟩⟩))
          go_meet
          case rel => exact ⟨_, ((a1 == 0)), (by first | rfl | (simp; done) | (simp [*]; done)), H', ⟨by first | omega | exact Nat.le_refl _⟩, ⟨sqK BK240⟩, ⟨sqB1 HB GE240⟩⟩
        · rw [if_neg c9] at H
          have c9b0 : (a0 == 0) = false := beq_eq_false_iff_ne.mpr c9
          have c9b1 : (a0 != 0) = true := bne_iff_ne.mpr c9
          (first | rw [c9b0] | (simp only [i64_w, i32_w]; rw [c9b0]) | skip)
          have H' := Aside0.mk H
          clear H
          go_wp2_with (first | ((with_reducible refine gate_callee (f := 55) rfl ?_); refine goesL_ (some 8) rfl rfl Tryd.func55 (by kernel_rfl) rfl #[.int .i64 a0, .int .i64 (-1000000), .int .i64 1000000] rfl sqA ?_; (with_reducible refine (spec_l1In.calls a0 (-1000000) 1000000 true _ A5.out).mono ?_); rintro e w' ⟨rfl, ⟨nd, rfl⟩⟩; refine ⟨_, rfl, ?_⟩) | (go_at_call 55; (with_reducible refine (spec_l1In.calls a1 (-1000000) 1000000 true _ A7.out).mono ?_); rintro e w' ⟨rfl, ⟨nd, rfl⟩⟩))
          go_meet
          case rel => exact ⟨_, (false), (by first | rfl | (simp; done) | (simp [*]; done)), H', ⟨by first | omega | exact Nat.le_refl _⟩, ⟨sqK BK240⟩, ⟨sqB1 HB GE240⟩⟩
      · replace c8 := Bool.eq_false_iff.mpr c8
        subst c8
        have H1 : (spec_LowestOf.j0 k a0 a1 true) = some (r1, r2, r3) := by rw [if_neg (show ¬ (false = true) by decide)] at H; exact H
        clear H
        have H := H1
        clear H1
        have H' := Aside0.mk H
        clear H
        go_wp2_with (first | ((with_reducible refine gate_callee (f := 55) rfl ?_); refine goesL_ (some 8) rfl rfl Tryd.func55 (by kernel_rfl) rfl #[.int .i64 a0, .int .i64 (-1000000), .int .i64 1000000] rfl sqA ?_; (with_reducible refine (spec_l1In.calls a0 (-1000000) 1000000 true _ A5.out).mono ?_); rintro e w' ⟨rfl, ⟨nd, rfl⟩⟩; refine ⟨_, rfl, ?_⟩) | (go_at_call 55; (with_reducible refine (spec_l1In.calls a1 (-1000000) 1000000 false _ A7.out).mono ?_); rintro e w' ⟨rfl, ⟨nd, rfl⟩⟩))
        go_meet
        case rel => exact ⟨_, (true), (by first | rfl | (simp; done) | (simp [*]; done)), H', ⟨by first | omega | exact Nat.le_refl _⟩, ⟨sqK BK240⟩, ⟨sqB1 HB GE240⟩⟩
    · replace c6 := Bool.eq_false_iff.mpr c6
      subst c6
      have H1 : (spec_LowestOf.j0 k a0 a1 true) = some (r1, r2, r3) := by rw [if_neg (show ¬ (false = true) by decide)] at H; exact H
      clear H
      have H := H1
      clear H1
      have H' := Aside0.mk H
      clear H
      go_wp2_with (first | ((with_reducible refine gate_callee (f := 55) rfl ?_); refine goesL_ (some 8) rfl rfl Tryd.func55 (by kernel_rfl) rfl #[.int .i64 a0, .int .i64 (-1000000), .int .i64 1000000] rfl sqA ?_; (with_reducible refine (spec_l1In.calls a0 (-1000000) 1000000 false _ A5.out).mono ?_); rintro e w' ⟨rfl, ⟨nd, rfl⟩⟩; refine ⟨_, rfl, ?_⟩))
      go_meet
      case rel => exact ⟨_, (true), (by first | rfl | (simp; done) | (simp [*]; done)), H', ⟨by first | omega | exact Nat.le_refl _⟩, ⟨sqK BK240⟩, ⟨sqB1 HB GE240⟩⟩
  case rest =>
    clear HC3
    try clear p2
    try clear c5
    try clear c6
    try clear c8
    try clear c9
    try clear c9b0
    try clear c9b1
    obtain ⟨kq, x22_2, rfl, HA, HJ2, BK240, HB⟩ := hcut
    cases kq with
    | zero => exact absurd HA.out (by simp [spec_LowestOf.j0])
    | succ kj2 =>
      have H := HA.out
      clear HA
      simp only [spec_LowestOf.j0] at H
      by_cases c10 : x22_2 = true
      · subst c10
        have H1 : (some (0, 0, false)) = some (r1, r2, r3) := by rw [if_pos rfl] at H; exact H
        clear H
        have H := H1
        clear H1
        simp only [Option.some.injEq, Prod.mk.injEq] at H
        obtain ⟨rfl, rfl, rfl⟩ := H
        have hcz11_0 := sqZ BK240 0 (.int .i64 0)
        have hcz11_1 := sqZ BK240 1 (.int .i64 0)
        have hfz11_0 := blk_frozen BK240.out 0
        have hfz11_1 := blk_frozen BK240.out 1
        go_wp2
        refine bodyPost_ret (results_ct rfl _ _ gb240 50 #[.int .i64 0, .int .i64 0] (0, 0) _ rfl (by (with_reducible repeat (first | refine blk_drewN ?_ _ | refine blk_drew ?_ | refine blk_alloc ?_ _)); refine blk_put (cs := #[.int .i64 0, .int .i64 0]) ?_ 1 _ rfl; (with_reducible repeat (first | refine blk_drewN ?_ _ | refine blk_drew ?_ | refine blk_alloc ?_ _)); refine blk_put (cs := #[.int .i64 0, .int .i64 0]) ?_ 0 _ rfl; (with_reducible repeat (first | refine blk_drewN ?_ _ | refine blk_drew ?_ | refine blk_alloc ?_ _)); exact BK240.out) Tryd.underlying50 rfl (by kernel_rfl)) rfl ?_
        exact ⟨by first | rfl | (simp [errP_none, errP_some] <;> rfl) | (simp [*, errP_none, errP_some] <;> rfl), sqB1 HB GE240⟩
      · replace c10 := Bool.eq_false_iff.mpr c10
        subst c10
        have H1 : ((spec_l1Common.f kj2 a0 a1).bind fun t243 => (if a1 < 0 then (if (wrap64 (-t243)) = 0 then (none) else (some (wrap64 (Int.tdiv a0 (wrap64 (-t243))), wrap64 (Int.tdiv a1 (wrap64 (-t243))), true))) else (if a1 = 0 then (if a0 < 0 then (if (wrap64 (-t243)) = 0 then (none) else (some (wrap64 (Int.tdiv a0 (wrap64 (-t243))), wrap64 (Int.tdiv a1 (wrap64 (-t243))), true))) else (if t243 = 0 then (none) else (some (wrap64 (Int.tdiv a0 t243), wrap64 (Int.tdiv a1 t243), true)))) else (if t243 = 0 then (none) else (some (wrap64 (Int.tdiv a0 t243), wrap64 (Int.tdiv a1 t243), true)))))) = some (r1, r2, r3) := by rw [if_neg (show ¬ (false = true) by decide)] at H; exact H
        clear H
        have H := H1
        clear H1
        replace H := Option.bind_eq_some_iff.mp H
        obtain ⟨t243, A120, H⟩ := H
        replace H : (if a1 < 0 then (if (wrap64 (-t243)) = 0 then (none) else (some (wrap64 (Int.tdiv a0 (wrap64 (-t243))), wrap64 (Int.tdiv a1 (wrap64 (-t243))), true))) else (if a1 = 0 then (if a0 < 0 then (if (wrap64 (-t243)) = 0 then (none) else (some (wrap64 (Int.tdiv a0 (wrap64 (-t243))), wrap64 (Int.tdiv a1 (wrap64 (-t243))), true))) else (if t243 = 0 then (none) else (some (wrap64 (Int.tdiv a0 t243), wrap64 (Int.tdiv a1 t243), true)))) else (if t243 = 0 then (none) else (some (wrap64 (Int.tdiv a0 t243), wrap64 (Int.tdiv a1 t243), true))))) = some (r1, r2, r3) := H
        have A12 := Aside0.mk A120
        clear A120
        by_cases c13 : a1 < 0
        · rw [if_pos c13] at H
          have c13b0 : decide (a1 < 0) = true := decide_eq_true c13
          clear c13
          by_cases c14 : (wrap64 (-t243)) = 0
          · rw [if_pos c14] at H
            exact absurd H (by simp)
          · rw [if_neg c14] at H
            have c14b0 : ((wrap64 (-t243)) == 0) = false := beq_eq_false_iff_ne.mpr c14
            have c14b1 : ((wrap64 (-t243)) != 0) = true := bne_iff_ne.mpr c14
            simp only [Option.some.injEq, Prod.mk.injEq] at H
            obtain ⟨rfl, rfl, rfl⟩ := H
            try go_wp2_with (first | ((with_reducible refine gate_callee (f := 66) rfl ?_); refine goesL_ (some 26) rfl rfl Tryd.func66 (by kernel_rfl) rfl #[.int .i64 a0, .int .i64 a1] rfl sqA ?_; (with_reducible refine (spec_l1Common.calls kj2 a0 a1 t243 _ A12.out).mono ?_); rintro e w15 ⟨rfl, hb⟩; refine ⟨_, rfl, ?_⟩; replace BK240 := sqT BK240 hb; replace HB := sqS (sqB1 HB GE240) hb; (try clear hb)))
            replace BK240 := Aside0.mk (blk_drew BK240.out)
            replace HB := Aside0.mk (below_drew1 HB.out)
            refine start_ (n := 9) (S := fun w' => True) (ds := []) #[false, false, false, false, false, false, false, false, false] (by kernel_rfl) rfl rfl trivial (fun hHeld => ?_); refine with_tabW spec_LowestOf.tab6 spec_LowestOf.bits6 (fun HT_ HW_ => ?_)
            generalize w15.drew = w16 at BK240 HB hHeld ⊢
            refine pure_ (i := 0) (N := some 39) (v := ?_) (a' := ?_) #[true, false, false, false, false, false, false, false, false] rfl rfl (any_of HT_.out (by kernel_rfl)) (fun _ _ _ h => h) (Or.inl ⟨by rfl, ?_⟩) ?_ ?_
            rotate_left
            · intro w'
              go_simp
              with_reducible rfl
            rotate_left
            · simp only [Act.put, List.setIfInBounds_toArray, List.set_cons_zero, List.set_cons_succ, i64_w, i32_w]
              rfl
            refine pure_ (i := 1) (N := some 40) (v := ?_) (a' := ?_) #[true, true, false, false, false, false, false, false, false] rfl rfl (any_of HT_.out (by kernel_rfl)) (fun _ _ _ h => h) (Or.inl ⟨by rfl, ?_⟩) ?_ ?_
            rotate_left
            · intro w'
              go_simp
              with_reducible rfl
            rotate_left
            · simp only [Act.put, List.setIfInBounds_toArray, List.set_cons_zero, List.set_cons_succ, i64_w, i32_w]
              rfl
            refine pure_ (i := 2) (N := some 41) (v := ?_) (a' := ?_) #[true, true, true, false, false, false, false, false, false] rfl rfl (any_of HT_.out (by kernel_rfl)) (fun _ _ _ h => h) (Or.inl ⟨by rfl, ?_⟩) ?_ ?_
            rotate_left
            · intro w'
              go_simp
              with_reducible rfl
            rotate_left
            · simp only [Act.put, List.setIfInBounds_toArray, List.set_cons_zero, List.set_cons_succ, i64_w, i32_w]
              rfl
            refine pure_ (i := 3) (N := some 42) (v := ?_) (a' := ?_) #[true, true, true, true, false, false, false, false, false] rfl rfl (any_of HT_.out (by kernel_rfl)) (fun _ _ _ h => h) (Or.inl ⟨by rfl, ?_⟩) ?_ ?_
            rotate_left
            · intro w'
              go_simp
              with_reducible rfl
            rotate_left
            · simp only [Act.put, List.setIfInBounds_toArray, List.set_cons_zero, List.set_cons_succ, i64_w, i32_w]
              rfl
            refine pure_ (i := 4) (N := some 43) (v := ?_) (a' := ?_) #[true, true, true, true, true, false, false, false, false] rfl rfl (any_of HT_.out (by kernel_rfl)) (fun _ _ _ h => h) (Or.inl ⟨by rfl, ?_⟩) ?_ ?_
            rotate_left
            · intro w'
              go_simp
              with_reducible rfl
            rotate_left
            · simp only [Act.put, List.setIfInBounds_toArray, List.set_cons_zero, List.set_cons_succ, i64_w, i32_w]
              rfl
            refine pure_ (i := 5) (N := some 44) (v := ?_) (a' := ?_) #[true, true, true, true, true, true, false, false, false] rfl rfl (any_of HT_.out (by kernel_rfl)) (fun _ _ _ h => h) (Or.inl ⟨by rfl, ?_⟩) ?_ ?_
            rotate_left
            · intro w'
              go_simp
              with_reducible rfl
            rotate_left
            · simp only [Act.put, List.setIfInBounds_toArray, List.set_cons_zero, List.set_cons_succ, i64_w, i32_w]
              rfl
            refine pure_ (i := 6) (N := some 45) (v := ?_) (a' := ?_) #[true, true, true, true, true, true, true, false, false] rfl rfl (any_of HT_.out (by kernel_rfl)) (fun _ _ _ h => h) (Or.inl ⟨by rfl, ?_⟩) ?_ ?_
            rotate_left
            · intro w'
              go_simp
              with_reducible rfl
            rotate_left
            · simp only [Act.put, List.setIfInBounds_toArray, List.set_cons_zero, List.set_cons_succ, i64_w, i32_w]
              rfl
            refine one_ (i := 7) (N := none) #[true, true, true, true, true, true, true, true, false] rfl rfl (one_of HT_.out (by kernel_rfl)) (by decide) (fun K hK => ?_)
            have hs17 : w16.cell? ⟨gb240, 0, none⟩ = some (.int .i64 0) := (blk_cell BK240.out 0).trans rfl
            have hfs17 := blk_frozen BK240.out 0
            have hs18 : w16.cell? ⟨gb240, 1, none⟩ = some (.int .i64 0) := (blk_cell BK240.out 1).trans rfl
            have hfs18 := blk_frozen BK240.out 1
            refine skip_ (w1 := ?_) (by rfl) rfl ?_ ?_
            rotate_left
            · go_simp
              rfl
            refine hK.out _ _ trivial (fun hHeld => ?_)
            clear hK K
            refine pure_ (i := 8) (N := some 5) (v := ?_) (a' := ?_) #[true, true, true, true, true, true, true, true, true] rfl rfl (any_of HT_.out (by kernel_rfl)) (fun _ _ _ h => h) (Or.inl ⟨by rfl, ?_⟩) ?_ ?_
            rotate_left
            · intro w'
              go_simp
              with_reducible rfl
            rotate_left
            · simp only [Act.put, List.setIfInBounds_toArray, List.set_cons_zero, List.set_cons_succ, i64_w, i32_w]
              rfl
            refine done_ (done_of HT_.out (by kernel_rfl)) ?_
            try go_wp2
            refine bodyPost_ret (results_ct rfl _ _ gb240 50 #[.int .i64 (wrap64 (Int.tdiv a0 (wrap64 (-t243)))), .int .i64 (wrap64 (Int.tdiv a1 (wrap64 (-t243))))] (0, 0) _ rfl (by (with_reducible repeat (first | refine blk_drewN ?_ _ | refine blk_drew ?_ | refine blk_alloc ?_ _)); refine blk_put (cs := #[.int .i64 (wrap64 (Int.tdiv a0 (wrap64 (-t243)))), .int .i64 0]) ?_ 1 _ rfl; (with_reducible repeat (first | refine blk_drewN ?_ _ | refine blk_drew ?_ | refine blk_alloc ?_ _)); refine blk_put (cs := #[.int .i64 0, .int .i64 0]) ?_ 0 _ rfl; (with_reducible repeat (first | refine blk_drewN ?_ _ | refine blk_drew ?_ | refine blk_alloc ?_ _)); exact BK240.out) Tryd.underlying50 rfl (by kernel_rfl)) rfl ?_
            exact ⟨by first | rfl | (simp [errP_none, errP_some] <;> rfl) | (simp [*, errP_none, errP_some] <;> rfl), sqB1 HB GE240⟩
        · rw [if_neg c13] at H
          have c13b0 : decide (a1 < 0) = false := decide_eq_false c13
          clear c13
          by_cases c19 : a1 = 0
          · rw [if_pos c19] at H
            have c19b0 : (a1 == 0) = true := beq_iff_eq.mpr c19
            have c19b1 : (a1 != 0) = false := bne_eq_false_iff_eq.mpr c19
            clear c19
            by_cases c20 : a0 < 0
            · rw [if_pos c20] at H
              have c20b0 : decide (a0 < 0) = true := decide_eq_true c20
              clear c20
              by_cases c21 : (wrap64 (-t243)) = 0
              · rw [if_pos c21] at H
                exact absurd H (by simp)
              · rw [if_neg c21] at H
                have c21b0 : ((wrap64 (-t243)) == 0) = false := beq_eq_false_iff_ne.mpr c21
                have c21b1 : ((wrap64 (-t243)) != 0) = true := bne_iff_ne.mpr c21
                simp only [Option.some.injEq, Prod.mk.injEq] at H
                obtain ⟨rfl, rfl, rfl⟩ := H
                try go_wp2_with (first | ((with_reducible refine gate_callee (f := 66) rfl ?_); refine goesL_ (some 26) rfl rfl Tryd.func66 (by kernel_rfl) rfl #[.int .i64 a0, .int .i64 a1] rfl sqA ?_; (with_reducible refine (spec_l1Common.calls kj2 a0 a1 t243 _ A12.out).mono ?_); rintro e w22 ⟨rfl, hb⟩; refine ⟨_, rfl, ?_⟩; replace BK240 := sqT BK240 hb; replace HB := sqS (sqB1 HB GE240) hb; (try clear hb)))
                replace BK240 := Aside0.mk (blk_drew BK240.out)
                replace HB := Aside0.mk (below_drew1 HB.out)
                refine start_ (n := 9) (S := fun w' => True) (ds := []) #[false, false, false, false, false, false, false, false, false] (by kernel_rfl) rfl rfl trivial (fun hHeld => ?_); refine with_tabW spec_LowestOf.tab6 spec_LowestOf.bits6 (fun HT_ HW_ => ?_)
                generalize w22.drew = w23 at BK240 HB hHeld ⊢
                refine pure_ (i := 0) (N := some 39) (v := ?_) (a' := ?_) #[true, false, false, false, false, false, false, false, false] rfl rfl (any_of HT_.out (by kernel_rfl)) (fun _ _ _ h => h) (Or.inl ⟨by rfl, ?_⟩) ?_ ?_
                rotate_left
                · intro w'
                  go_simp
                  with_reducible rfl
                rotate_left
                · simp only [Act.put, List.setIfInBounds_toArray, List.set_cons_zero, List.set_cons_succ, i64_w, i32_w]
                  rfl
                refine pure_ (i := 1) (N := some 40) (v := ?_) (a' := ?_) #[true, true, false, false, false, false, false, false, false] rfl rfl (any_of HT_.out (by kernel_rfl)) (fun _ _ _ h => h) (Or.inl ⟨by rfl, ?_⟩) ?_ ?_
                rotate_left
                · intro w'
                  go_simp
                  with_reducible rfl
                rotate_left
                · simp only [Act.put, List.setIfInBounds_toArray, List.set_cons_zero, List.set_cons_succ, i64_w, i32_w]
                  rfl
                refine pure_ (i := 2) (N := some 41) (v := ?_) (a' := ?_) #[true, true, true, false, false, false, false, false, false] rfl rfl (any_of HT_.out (by kernel_rfl)) (fun _ _ _ h => h) (Or.inl ⟨by rfl, ?_⟩) ?_ ?_
                rotate_left
                · intro w'
                  go_simp
                  with_reducible rfl
                rotate_left
                · simp only [Act.put, List.setIfInBounds_toArray, List.set_cons_zero, List.set_cons_succ, i64_w, i32_w]
                  rfl
                refine pure_ (i := 3) (N := some 42) (v := ?_) (a' := ?_) #[true, true, true, true, false, false, false, false, false] rfl rfl (any_of HT_.out (by kernel_rfl)) (fun _ _ _ h => h) (Or.inl ⟨by rfl, ?_⟩) ?_ ?_
                rotate_left
                · intro w'
                  go_simp
                  with_reducible rfl
                rotate_left
                · simp only [Act.put, List.setIfInBounds_toArray, List.set_cons_zero, List.set_cons_succ, i64_w, i32_w]
                  rfl
                refine pure_ (i := 4) (N := some 43) (v := ?_) (a' := ?_) #[true, true, true, true, true, false, false, false, false] rfl rfl (any_of HT_.out (by kernel_rfl)) (fun _ _ _ h => h) (Or.inl ⟨by rfl, ?_⟩) ?_ ?_
                rotate_left
                · intro w'
                  go_simp
                  with_reducible rfl
                rotate_left
                · simp only [Act.put, List.setIfInBounds_toArray, List.set_cons_zero, List.set_cons_succ, i64_w, i32_w]
                  rfl
                refine pure_ (i := 5) (N := some 44) (v := ?_) (a' := ?_) #[true, true, true, true, true, true, false, false, false] rfl rfl (any_of HT_.out (by kernel_rfl)) (fun _ _ _ h => h) (Or.inl ⟨by rfl, ?_⟩) ?_ ?_
                rotate_left
                · intro w'
                  go_simp
                  with_reducible rfl
                rotate_left
                · simp only [Act.put, List.setIfInBounds_toArray, List.set_cons_zero, List.set_cons_succ, i64_w, i32_w]
                  rfl
                refine pure_ (i := 6) (N := some 45) (v := ?_) (a' := ?_) #[true, true, true, true, true, true, true, false, false] rfl rfl (any_of HT_.out (by kernel_rfl)) (fun _ _ _ h => h) (Or.inl ⟨by rfl, ?_⟩) ?_ ?_
                rotate_left
                · intro w'
                  go_simp
                  with_reducible rfl
                rotate_left
                · simp only [Act.put, List.setIfInBounds_toArray, List.set_cons_zero, List.set_cons_succ, i64_w, i32_w]
                  rfl
                refine one_ (i := 7) (N := none) #[true, true, true, true, true, true, true, true, false] rfl rfl (one_of HT_.out (by kernel_rfl)) (by decide) (fun K hK => ?_)
                have hs24 : w23.cell? ⟨gb240, 0, none⟩ = some (.int .i64 0) := (blk_cell BK240.out 0).trans rfl
                have hfs24 := blk_frozen BK240.out 0
                have hs25 : w23.cell? ⟨gb240, 1, none⟩ = some (.int .i64 0) := (blk_cell BK240.out 1).trans rfl
                have hfs25 := blk_frozen BK240.out 1
                refine skip_ (w1 := ?_) (by rfl) rfl ?_ ?_
                rotate_left
                · go_simp
                  rfl
                refine hK.out _ _ trivial (fun hHeld => ?_)
                clear hK K
                refine pure_ (i := 8) (N := some 5) (v := ?_) (a' := ?_) #[true, true, true, true, true, true, true, true, true] rfl rfl (any_of HT_.out (by kernel_rfl)) (fun _ _ _ h => h) (Or.inl ⟨by rfl, ?_⟩) ?_ ?_
                rotate_left
                · intro w'
                  go_simp
                  with_reducible rfl
                rotate_left
                · simp only [Act.put, List.setIfInBounds_toArray, List.set_cons_zero, List.set_cons_succ, i64_w, i32_w]
                  rfl
                refine done_ (done_of HT_.out (by kernel_rfl)) ?_
                try go_wp2
                refine bodyPost_ret (results_ct rfl _ _ gb240 50 #[.int .i64 (wrap64 (Int.tdiv a0 (wrap64 (-t243)))), .int .i64 (wrap64 (Int.tdiv a1 (wrap64 (-t243))))] (0, 0) _ rfl (by (with_reducible repeat (first | refine blk_drewN ?_ _ | refine blk_drew ?_ | refine blk_alloc ?_ _)); refine blk_put (cs := #[.int .i64 (wrap64 (Int.tdiv a0 (wrap64 (-t243)))), .int .i64 0]) ?_ 1 _ rfl; (with_reducible repeat (first | refine blk_drewN ?_ _ | refine blk_drew ?_ | refine blk_alloc ?_ _)); refine blk_put (cs := #[.int .i64 0, .int .i64 0]) ?_ 0 _ rfl; (with_reducible repeat (first | refine blk_drewN ?_ _ | refine blk_drew ?_ | refine blk_alloc ?_ _)); exact BK240.out) Tryd.underlying50 rfl (by kernel_rfl)) rfl ?_
                exact ⟨by first | rfl | (simp [errP_none, errP_some] <;> rfl) | (simp [*, errP_none, errP_some] <;> rfl), sqB1 HB GE240⟩
            · rw [if_neg c20] at H
              have c20b0 : decide (a0 < 0) = false := decide_eq_false c20
              clear c20
              by_cases c26 : t243 = 0
              · rw [if_pos c26] at H
                exact absurd H (by simp)
              · rw [if_neg c26] at H
                have c26b0 : (t243 == 0) = false := beq_eq_false_iff_ne.mpr c26
                have c26b1 : (t243 != 0) = true := bne_iff_ne.mpr c26
                simp only [Option.some.injEq, Prod.mk.injEq] at H
                obtain ⟨rfl, rfl, rfl⟩ := H
                try go_wp2_with (first | ((with_reducible refine gate_callee (f := 66) rfl ?_); refine goesL_ (some 26) rfl rfl Tryd.func66 (by kernel_rfl) rfl #[.int .i64 a0, .int .i64 a1] rfl sqA ?_; (with_reducible refine (spec_l1Common.calls kj2 a0 a1 t243 _ A12.out).mono ?_); rintro e w27 ⟨rfl, hb⟩; refine ⟨_, rfl, ?_⟩; replace BK240 := sqT BK240 hb; replace HB := sqS (sqB1 HB GE240) hb; (try clear hb)))
                replace BK240 := Aside0.mk (blk_drew BK240.out)
                replace HB := Aside0.mk (below_drew1 HB.out)
                refine start_ (n := 9) (S := fun w' => True) (ds := []) #[false, false, false, false, false, false, false, false, false] (by kernel_rfl) rfl rfl trivial (fun hHeld => ?_); refine with_tabW spec_LowestOf.tab6 spec_LowestOf.bits6 (fun HT_ HW_ => ?_)
                generalize w27.drew = w28 at BK240 HB hHeld ⊢
                refine pure_ (i := 0) (N := some 39) (v := ?_) (a' := ?_) #[true, false, false, false, false, false, false, false, false] rfl rfl (any_of HT_.out (by kernel_rfl)) (fun _ _ _ h => h) (Or.inl ⟨by rfl, ?_⟩) ?_ ?_
                rotate_left
                · intro w'
                  go_simp
                  with_reducible rfl
                rotate_left
                · simp only [Act.put, List.setIfInBounds_toArray, List.set_cons_zero, List.set_cons_succ, i64_w, i32_w]
                  rfl
                refine pure_ (i := 1) (N := some 40) (v := ?_) (a' := ?_) #[true, true, false, false, false, false, false, false, false] rfl rfl (any_of HT_.out (by kernel_rfl)) (fun _ _ _ h => h) (Or.inl ⟨by rfl, ?_⟩) ?_ ?_
                rotate_left
                · intro w'
                  go_simp
                  with_reducible rfl
                rotate_left
                · simp only [Act.put, List.setIfInBounds_toArray, List.set_cons_zero, List.set_cons_succ, i64_w, i32_w]
                  rfl
                refine pure_ (i := 2) (N := some 41) (v := ?_) (a' := ?_) #[true, true, true, false, false, false, false, false, false] rfl rfl (any_of HT_.out (by kernel_rfl)) (fun _ _ _ h => h) (Or.inl ⟨by rfl, ?_⟩) ?_ ?_
                rotate_left
                · intro w'
                  go_simp
                  with_reducible rfl
                rotate_left
                · simp only [Act.put, List.setIfInBounds_toArray, List.set_cons_zero, List.set_cons_succ, i64_w, i32_w]
                  rfl
                refine pure_ (i := 3) (N := some 42) (v := ?_) (a' := ?_) #[true, true, true, true, false, false, false, false, false] rfl rfl (any_of HT_.out (by kernel_rfl)) (fun _ _ _ h => h) (Or.inl ⟨by rfl, ?_⟩) ?_ ?_
                rotate_left
                · intro w'
                  go_simp
                  with_reducible rfl
                rotate_left
                · simp only [Act.put, List.setIfInBounds_toArray, List.set_cons_zero, List.set_cons_succ, i64_w, i32_w]
                  rfl
                refine pure_ (i := 4) (N := some 43) (v := ?_) (a' := ?_) #[true, true, true, true, true, false, false, false, false] rfl rfl (any_of HT_.out (by kernel_rfl)) (fun _ _ _ h => h) (Or.inl ⟨by rfl, ?_⟩) ?_ ?_
                rotate_left
                · intro w'
                  go_simp
                  with_reducible rfl
                rotate_left
                · simp only [Act.put, List.setIfInBounds_toArray, List.set_cons_zero, List.set_cons_succ, i64_w, i32_w]
                  rfl
                refine pure_ (i := 5) (N := some 44) (v := ?_) (a' := ?_) #[true, true, true, true, true, true, false, false, false] rfl rfl (any_of HT_.out (by kernel_rfl)) (fun _ _ _ h => h) (Or.inl ⟨by rfl, ?_⟩) ?_ ?_
                rotate_left
                · intro w'
                  go_simp
                  with_reducible rfl
                rotate_left
                · simp only [Act.put, List.setIfInBounds_toArray, List.set_cons_zero, List.set_cons_succ, i64_w, i32_w]
                  rfl
                refine pure_ (i := 6) (N := some 45) (v := ?_) (a' := ?_) #[true, true, true, true, true, true, true, false, false] rfl rfl (any_of HT_.out (by kernel_rfl)) (fun _ _ _ h => h) (Or.inl ⟨by rfl, ?_⟩) ?_ ?_
                rotate_left
                · intro w'
                  go_simp
                  with_reducible rfl
                rotate_left
                · simp only [Act.put, List.setIfInBounds_toArray, List.set_cons_zero, List.set_cons_succ, i64_w, i32_w]
                  rfl
                refine one_ (i := 7) (N := none) #[true, true, true, true, true, true, true, true, false] rfl rfl (one_of HT_.out (by kernel_rfl)) (by decide) (fun K hK => ?_)
                have hs29 : w28.cell? ⟨gb240, 0, none⟩ = some (.int .i64 0) := (blk_cell BK240.out 0).trans rfl
                have hfs29 := blk_frozen BK240.out 0
                have hs30 : w28.cell? ⟨gb240, 1, none⟩ = some (.int .i64 0) := (blk_cell BK240.out 1).trans rfl
                have hfs30 := blk_frozen BK240.out 1
                refine skip_ (w1 := ?_) (by rfl) rfl ?_ ?_
                rotate_left
                · go_simp
                  rfl
                refine hK.out _ _ trivial (fun hHeld => ?_)
                clear hK K
                refine pure_ (i := 8) (N := some 5) (v := ?_) (a' := ?_) #[true, true, true, true, true, true, true, true, true] rfl rfl (any_of HT_.out (by kernel_rfl)) (fun _ _ _ h => h) (Or.inl ⟨by rfl, ?_⟩) ?_ ?_
                rotate_left
                · intro w'
                  go_simp
                  with_reducible rfl
                rotate_left
                · simp only [Act.put, List.setIfInBounds_toArray, List.set_cons_zero, List.set_cons_succ, i64_w, i32_w]
                  rfl
                refine done_ (done_of HT_.out (by kernel_rfl)) ?_
                try go_wp2
                refine bodyPost_ret (results_ct rfl _ _ gb240 50 #[.int .i64 (wrap64 (Int.tdiv a0 t243)), .int .i64 (wrap64 (Int.tdiv a1 t243))] (0, 0) _ rfl (by (with_reducible repeat (first | refine blk_drewN ?_ _ | refine blk_drew ?_ | refine blk_alloc ?_ _)); refine blk_put (cs := #[.int .i64 (wrap64 (Int.tdiv a0 t243)), .int .i64 0]) ?_ 1 _ rfl; (with_reducible repeat (first | refine blk_drewN ?_ _ | refine blk_drew ?_ | refine blk_alloc ?_ _)); refine blk_put (cs := #[.int .i64 0, .int .i64 0]) ?_ 0 _ rfl; (with_reducible repeat (first | refine blk_drewN ?_ _ | refine blk_drew ?_ | refine blk_alloc ?_ _)); exact BK240.out) Tryd.underlying50 rfl (by kernel_rfl)) rfl ?_
                exact ⟨by first | rfl | (simp [errP_none, errP_some] <;> rfl) | (simp [*, errP_none, errP_some] <;> rfl), sqB1 HB GE240⟩
          · rw [if_neg c19] at H
            have c19b0 : (a1 == 0) = false := beq_eq_false_iff_ne.mpr c19
            have c19b1 : (a1 != 0) = true := bne_iff_ne.mpr c19
            by_cases c31 : t243 = 0
            · rw [if_pos c31] at H
              exact absurd H (by simp)
            · rw [if_neg c31] at H
              have c31b0 : (t243 == 0) = false := beq_eq_false_iff_ne.mpr c31
              have c31b1 : (t243 != 0) = true := bne_iff_ne.mpr c31
              simp only [Option.some.injEq, Prod.mk.injEq] at H
              obtain ⟨rfl, rfl, rfl⟩ := H
              try go_wp2_with (first | ((with_reducible refine gate_callee (f := 66) rfl ?_); refine goesL_ (some 26) rfl rfl Tryd.func66 (by kernel_rfl) rfl #[.int .i64 a0, .int .i64 a1] rfl sqA ?_; (with_reducible refine (spec_l1Common.calls kj2 a0 a1 t243 _ A12.out).mono ?_); rintro e w32 ⟨rfl, hb⟩; refine ⟨_, rfl, ?_⟩; replace BK240 := sqT BK240 hb; replace HB := sqS (sqB1 HB GE240) hb; (try clear hb)))
              replace BK240 := Aside0.mk (blk_drew BK240.out)
              replace HB := Aside0.mk (below_drew1 HB.out)
              refine start_ (n := 9) (S := fun w' => True) (ds := []) #[false, false, false, false, false, false, false, false, false] (by kernel_rfl) rfl rfl trivial (fun hHeld => ?_); refine with_tabW spec_LowestOf.tab6 spec_LowestOf.bits6 (fun HT_ HW_ => ?_)
              generalize w32.drew = w33 at BK240 HB hHeld ⊢
              refine pure_ (i := 0) (N := some 39) (v := ?_) (a' := ?_) #[true, false, false, false, false, false, false, false, false] rfl rfl (any_of HT_.out (by kernel_rfl)) (fun _ _ _ h => h) (Or.inl ⟨by rfl, ?_⟩) ?_ ?_
              rotate_left
              · intro w'
                go_simp
                with_reducible rfl
              rotate_left
              · simp only [Act.put, List.setIfInBounds_toArray, List.set_cons_zero, List.set_cons_succ, i64_w, i32_w]
                rfl
              refine pure_ (i := 1) (N := some 40) (v := ?_) (a' := ?_) #[true, true, false, false, false, false, false, false, false] rfl rfl (any_of HT_.out (by kernel_rfl)) (fun _ _ _ h => h) (Or.inl ⟨by rfl, ?_⟩) ?_ ?_
              rotate_left
              · intro w'
                go_simp
                with_reducible rfl
              rotate_left
              · simp only [Act.put, List.setIfInBounds_toArray, List.set_cons_zero, List.set_cons_succ, i64_w, i32_w]
                rfl
              refine pure_ (i := 2) (N := some 41) (v := ?_) (a' := ?_) #[true, true, true, false, false, false, false, false, false] rfl rfl (any_of HT_.out (by kernel_rfl)) (fun _ _ _ h => h) (Or.inl ⟨by rfl, ?_⟩) ?_ ?_
              rotate_left
              · intro w'
                go_simp
                with_reducible rfl
              rotate_left
              · simp only [Act.put, List.setIfInBounds_toArray, List.set_cons_zero, List.set_cons_succ, i64_w, i32_w]
                rfl
              refine pure_ (i := 3) (N := some 42) (v := ?_) (a' := ?_) #[true, true, true, true, false, false, false, false, false] rfl rfl (any_of HT_.out (by kernel_rfl)) (fun _ _ _ h => h) (Or.inl ⟨by rfl, ?_⟩) ?_ ?_
              rotate_left
              · intro w'
                go_simp
                with_reducible rfl
              rotate_left
              · simp only [Act.put, List.setIfInBounds_toArray, List.set_cons_zero, List.set_cons_succ, i64_w, i32_w]
                rfl
              refine pure_ (i := 4) (N := some 43) (v := ?_) (a' := ?_) #[true, true, true, true, true, false, false, false, false] rfl rfl (any_of HT_.out (by kernel_rfl)) (fun _ _ _ h => h) (Or.inl ⟨by rfl, ?_⟩) ?_ ?_
              rotate_left
              · intro w'
                go_simp
                with_reducible rfl
              rotate_left
              · simp only [Act.put, List.setIfInBounds_toArray, List.set_cons_zero, List.set_cons_succ, i64_w, i32_w]
                rfl
              refine pure_ (i := 5) (N := some 44) (v := ?_) (a' := ?_) #[true, true, true, true, true, true, false, false, false] rfl rfl (any_of HT_.out (by kernel_rfl)) (fun _ _ _ h => h) (Or.inl ⟨by rfl, ?_⟩) ?_ ?_
              rotate_left
              · intro w'
                go_simp
                with_reducible rfl
              rotate_left
              · simp only [Act.put, List.setIfInBounds_toArray, List.set_cons_zero, List.set_cons_succ, i64_w, i32_w]
                rfl
              refine pure_ (i := 6) (N := some 45) (v := ?_) (a' := ?_) #[true, true, true, true, true, true, true, false, false] rfl rfl (any_of HT_.out (by kernel_rfl)) (fun _ _ _ h => h) (Or.inl ⟨by rfl, ?_⟩) ?_ ?_
              rotate_left
              · intro w'
                go_simp
                with_reducible rfl
              rotate_left
              · simp only [Act.put, List.setIfInBounds_toArray, List.set_cons_zero, List.set_cons_succ, i64_w, i32_w]
                rfl
              refine one_ (i := 7) (N := none) #[true, true, true, true, true, true, true, true, false] rfl rfl (one_of HT_.out (by kernel_rfl)) (by decide) (fun K hK => ?_)
              have hs34 : w33.cell? ⟨gb240, 0, none⟩ = some (.int .i64 0) := (blk_cell BK240.out 0).trans rfl
              have hfs34 := blk_frozen BK240.out 0
              have hs35 : w33.cell? ⟨gb240, 1, none⟩ = some (.int .i64 0) := (blk_cell BK240.out 1).trans rfl
              have hfs35 := blk_frozen BK240.out 1
              refine skip_ (w1 := ?_) (by rfl) rfl ?_ ?_
              rotate_left
              · go_simp
                rfl
              refine hK.out _ _ trivial (fun hHeld => ?_)
              clear hK K
              refine pure_ (i := 8) (N := some 5) (v := ?_) (a' := ?_) #[true, true, true, true, true, true, true, true, true] rfl rfl (any_of HT_.out (by kernel_rfl)) (fun _ _ _ h => h) (Or.inl ⟨by rfl, ?_⟩) ?_ ?_
              rotate_left
              · intro w'
                go_simp
                with_reducible rfl
              rotate_left
              · simp only [Act.put, List.setIfInBounds_toArray, List.set_cons_zero, List.set_cons_succ, i64_w, i32_w]
                rfl
              refine done_ (done_of HT_.out (by kernel_rfl)) ?_
              try go_wp2
              refine bodyPost_ret (results_ct rfl _ _ gb240 50 #[.int .i64 (wrap64 (Int.tdiv a0 t243)), .int .i64 (wrap64 (Int.tdiv a1 t243))] (0, 0) _ rfl (by (with_reducible repeat (first | refine blk_drewN ?_ _ | refine blk_drew ?_ | refine blk_alloc ?_ _)); refine blk_put (cs := #[.int .i64 (wrap64 (Int.tdiv a0 t243)), .int .i64 0]) ?_ 1 _ rfl; (with_reducible repeat (first | refine blk_drewN ?_ _ | refine blk_drew ?_ | refine blk_alloc ?_ _)); refine blk_put (cs := #[.int .i64 0, .int .i64 0]) ?_ 0 _ rfl; (with_reducible repeat (first | refine blk_drewN ?_ _ | refine blk_drew ?_ | refine blk_alloc ?_ _)); exact BK240.out) Tryd.underlying50 rfl (by kernel_rfl)) rfl ?_
              exact ⟨by first | rfl | (simp [errP_none, errP_some] <;> rfl) | (simp [*, errP_none, errP_some] <;> rfl), sqB1 HB GE240⟩

/-! ### spec_l20Fraction: function 62 -/
def spec_l20Fraction.j0 : Nat → Int → List Int → Int → Int → Int → Option (Int × Int × Int)
  | 0, _, _, _, _, _ => none
  | k + 1, x1, x1000, x1001, x261000, x261001 => (spec_l20Rd_odd.f k x1000 x1001 x1).bind fun bt261 => (if bt261.1 = true then ((some (([(⟨0, 0⟩ : S50), (⟨2, 4⟩ : S50), (⟨1, (-2)⟩ : S50), (⟨(-1), 0⟩ : S50), (⟨1000001, 1⟩ : S50)] : List (S50)) : List (S50))).bind fun y263 => ((spec_l20Rd_pick.f k x1000 bt261.2 5).bind fun bt266 => (if 0 ≤ bt266.1 then (if bt266.1 < (y263.length : Int) then (some ((rd_T50 y263 bt266.1).f0, (rd_T50 y263 bt266.1).f1, bt266.2)) else (none)) else (none)))) else (some (x261000, x261001, bt261.2)))
def spec_l20Fraction.f (k : Nat) (s0_0 : List Int) (s0_1 : Int) (a1 : Int) : Option (Int × Int × Int) := (some (([4, 10, 50, 1000] : List Int) : List Int)).bind fun y245 => ((spec_l20Rd_pick.f k s0_0 s0_1 4).bind fun bt248 => (if 0 ≤ bt248.1 then (if bt248.1 < (y245.length : Int) then ((spec_l20Rd_pick.f k s0_0 bt248.2 (rd y245 bt248.1)).bind fun bt251 => ((spec_l20Rd_pick.f k s0_0 bt251.2 (rd y245 bt248.1)).bind fun bt253 => ((spec_l20Rd_pick.f k s0_0 bt253.2 (rd y245 bt248.1)).bind fun bt255 => ((spec_LowestOf.f k (wrap64 (bt251.1 - bt253.1)) bt255.1).bind fun bt257 => (if bt257.2.2 = true then (spec_l20Fraction.j0 k a1 s0_0 bt255.2 bt257.1 bt257.2.1) else (spec_l20Fraction.j0 k a1 s0_0 bt255.2 1 0)))))) else (none)) else (none)))
theorem spec_l20Fraction.mono_l : ∀ k, (∀ y0 y1 y2 y3 y4, LeO (spec_l20Fraction.j0 k y0 y1 y2 y3 y4) (spec_l20Fraction.j0 (k + 1) y0 y1 y2 y3 y4))
  | 0 => fun _ _ _ _ _ r h => by simp [spec_l20Fraction.j0] at h
  | k + 1 => by
    have ih0 := spec_l20Fraction.mono_l k
    · intro y0 y1 y2 y3 y4
      unfold spec_l20Fraction.j0
      repeat' first
      | (with_reducible exact ih0 _ _ _ _ _)
      | (with_reducible exact spec_LowestOf.mono _ _ _)
      | (with_reducible exact spec_l20Rd_odd.mono _ _ _ _)
      | (with_reducible exact spec_l20Rd_pick.mono _ _ _ _)
      | (with_reducible exact LeO.refl _)
      | (with_reducible exact LeO.none _)
      | (with_reducible refine LeO.ite ?_ ?_)
      | (with_reducible refine LeO.bind ?_ (fun _ => ?_))
      | exact ih0 _ _ _ _ _
      | exact spec_LowestOf.mono _ _ _
      | exact spec_l20Rd_odd.mono _ _ _ _
      | exact spec_l20Rd_pick.mono _ _ _ _
      | exact LeO.none _
      | refine LeO.ite ?_ ?_
      | refine LeO.bind ?_ (fun _ => ?_)
theorem spec_l20Fraction.mono : ∀ a0 a1 a2 k, LeO (spec_l20Fraction.f k a0 a1 a2) (spec_l20Fraction.f (k + 1) a0 a1 a2) := by
  intro a0 a1 a2 k
  have ih0 := spec_l20Fraction.mono_l k
  unfold spec_l20Fraction.f
  repeat' first
      | (with_reducible exact ih0 _ _ _ _ _)
      | (with_reducible exact spec_LowestOf.mono _ _ _)
      | (with_reducible exact spec_l20Rd_odd.mono _ _ _ _)
      | (with_reducible exact spec_l20Rd_pick.mono _ _ _ _)
      | (with_reducible exact LeO.refl _)
      | (with_reducible exact LeO.none _)
      | (with_reducible refine LeO.ite ?_ ?_)
      | (with_reducible refine LeO.bind ?_ (fun _ => ?_))
      | exact ih0 _ _ _ _ _
      | exact spec_LowestOf.mono _ _ _
      | exact spec_l20Rd_odd.mono _ _ _ _
      | exact spec_l20Rd_pick.mono _ _ _ _
      | exact LeO.none _
      | refine LeO.ite ?_ ?_
      | refine LeO.bind ?_ (fun _ => ?_)
set_option maxHeartbeats 8000000 in
set_option maxRecDepth 100000 in
theorem spec_l20Fraction.calls (k : Nat) (g : Nat) (s0_0 : List Int) (s0_1 : Int) (a1 : Int) (r1 : Int) (r2 : Int) (r3 : Int) (w0 w : World) (hI : IsS74 w0 w g s0_0 s0_1) (hB : Below w0.heap.size w0 w) (h : spec_l20Fraction.f k s0_0 s0_1 a1 = some (r1, r2, r3)) :
    Calls Tryd.prog 62 #[.pointer (some ⟨g, 0, none⟩), .int .i64 a1] w fun e w' => e = .returned (.agg #[.int .i64 r1, .int .i64 r2]) ∧ IsS74 w0 w' g s0_0 r3 ∧ Below w0.heap.size w0 w' ∧ KeepBut w w' g none := by
  have hu50 := Tryd.underlying50
  have HI0 := Aside0.mk hI
  have HK := Aside0.mk (KeepBut.refl w g none)
  have HL := Aside0.mk hB.size
  clear hI
  have HW0 := Aside0.mk hB.size
  have HB := Aside0.mk hB
  clear hB
  have H : ((some (([4, 10, 50, 1000] : List Int) : List Int)).bind fun y245 => ((spec_l20Rd_pick.f k s0_0 s0_1 4).bind fun bt248 => (if 0 ≤ bt248.1 then (if bt248.1 < (y245.length : Int) then ((spec_l20Rd_pick.f k s0_0 bt248.2 (rd y245 bt248.1)).bind fun bt251 => ((spec_l20Rd_pick.f k s0_0 bt251.2 (rd y245 bt248.1)).bind fun bt253 => ((spec_l20Rd_pick.f k s0_0 bt253.2 (rd y245 bt248.1)).bind fun bt255 => ((spec_LowestOf.f k (wrap64 (bt251.1 - bt253.1)) bt255.1).bind fun bt257 => (if bt257.2.2 = true then (spec_l20Fraction.j0 k a1 s0_0 bt255.2 bt257.1 bt257.2.1) else (spec_l20Fraction.j0 k a1 s0_0 bt255.2 1 0)))))) else (none)) else (none)))) = some (r1, r2, r3) := h
  clear h
  obtain ⟨y245, hy245⟩ : ∃ y_ : List Int, y_ = (([4, 10, 50, 1000] : List Int)) := ⟨_, rfl⟩
  replace H : ((spec_l20Rd_pick.f k s0_0 s0_1 4).bind fun bt248 => (if 0 ≤ bt248.1 then (if bt248.1 < (y245.length : Int) then ((spec_l20Rd_pick.f k s0_0 bt248.2 (rd y245 bt248.1)).bind fun bt251 => ((spec_l20Rd_pick.f k s0_0 bt251.2 (rd y245 bt248.1)).bind fun bt253 => ((spec_l20Rd_pick.f k s0_0 bt253.2 (rd y245 bt248.1)).bind fun bt255 => ((spec_LowestOf.f k (wrap64 (bt251.1 - bt253.1)) bt255.1).bind fun bt257 => (if bt257.2.2 = true then (spec_l20Fraction.j0 k a1 s0_0 bt255.2 bt257.1 bt257.2.1) else (spec_l20Fraction.j0 k a1 s0_0 bt255.2 1 0)))))) else (none)) else (none))) = some (r1, r2, r3) := by first | (rw [hy245]; with_reducible exact H) | (have H2_ := (Option.bind_some _ _).symm.trans H; rw [hy245]; with_reducible exact H2_) | (have H2_ := (Option.bind_some _ _).symm.trans H; with_reducible exact H2_) | with_reducible exact H | (rw [hy245]; exact H) | exact H
  have Ny245 := Aside0.mk hy245
  clear hy245
  replace H := Option.bind_eq_some_iff.mp H
  obtain ⟨⟨t248, t249⟩, A30, H⟩ := H
  replace H : (if 0 ≤ t248 then (if t248 < (y245.length : Int) then ((spec_l20Rd_pick.f k s0_0 t249 (rd y245 t248)).bind fun bt251 => ((spec_l20Rd_pick.f k s0_0 bt251.2 (rd y245 t248)).bind fun bt253 => ((spec_l20Rd_pick.f k s0_0 bt253.2 (rd y245 t248)).bind fun bt255 => ((spec_LowestOf.f k (wrap64 (bt251.1 - bt253.1)) bt255.1).bind fun bt257 => (if bt257.2.2 = true then (spec_l20Fraction.j0 k a1 s0_0 bt255.2 bt257.1 bt257.2.1) else (spec_l20Fraction.j0 k a1 s0_0 bt255.2 1 0)))))) else (none)) else (none)) = some (r1, r2, r3) := H
  have A3 := Aside0.mk A30
  clear A30
  by_cases c4 : 0 ≤ t248
  · rw [if_pos c4] at H
    have c4b0 : decide (0 ≤ t248) = true := decide_eq_true c4
    clear c4
    by_cases c5 : t248 < (y245.length : Int)
    · rw [if_pos c5] at H
      have c5b0 : decide (t248 < (y245.length : Int)) = true := decide_eq_true c5
      clear c5
      replace H := Option.bind_eq_some_iff.mp H
      obtain ⟨⟨t251, t252⟩, A60, H⟩ := H
      replace H : ((spec_l20Rd_pick.f k s0_0 t252 (rd y245 t248)).bind fun bt253 => ((spec_l20Rd_pick.f k s0_0 bt253.2 (rd y245 t248)).bind fun bt255 => ((spec_LowestOf.f k (wrap64 (t251 - bt253.1)) bt255.1).bind fun bt257 => (if bt257.2.2 = true then (spec_l20Fraction.j0 k a1 s0_0 bt255.2 bt257.1 bt257.2.1) else (spec_l20Fraction.j0 k a1 s0_0 bt255.2 1 0))))) = some (r1, r2, r3) := H
      have A6 := Aside0.mk A60
      clear A60
      replace H := Option.bind_eq_some_iff.mp H
      obtain ⟨⟨t253, t254⟩, A70, H⟩ := H
      replace H : ((spec_l20Rd_pick.f k s0_0 t254 (rd y245 t248)).bind fun bt255 => ((spec_LowestOf.f k (wrap64 (t251 - t253)) bt255.1).bind fun bt257 => (if bt257.2.2 = true then (spec_l20Fraction.j0 k a1 s0_0 bt255.2 bt257.1 bt257.2.1) else (spec_l20Fraction.j0 k a1 s0_0 bt255.2 1 0)))) = some (r1, r2, r3) := H
      have A7 := Aside0.mk A70
      clear A70
      replace H := Option.bind_eq_some_iff.mp H
      obtain ⟨⟨t255, t256⟩, A80, H⟩ := H
      replace H : ((spec_LowestOf.f k (wrap64 (t251 - t253)) t255).bind fun bt257 => (if bt257.2.2 = true then (spec_l20Fraction.j0 k a1 s0_0 t256 bt257.1 bt257.2.1) else (spec_l20Fraction.j0 k a1 s0_0 t256 1 0))) = some (r1, r2, r3) := H
      have A8 := Aside0.mk A80
      clear A80
      replace H := Option.bind_eq_some_iff.mp H
      obtain ⟨⟨t257, t258, t259⟩, A90, H⟩ := H
      replace H : (if t259 = true then (spec_l20Fraction.j0 k a1 s0_0 t256 t257 t258) else (spec_l20Fraction.j0 k a1 s0_0 t256 1 0)) = some (r1, r2, r3) := H
      have A9 := Aside0.mk A90
      clear A90
      have HC10 := Aside0.mk H
      clear H
      go_enter Tryd.func62, Tryd.ntmps62
      go_upto_if 28 with (first | ((with_reducible refine gate_dst (N := 4) rfl ?_); refine box_event ?hg (N := 4) ?hd (cs := #[.int .i64 0, .int .i64 0]) (t := 50) ?hr ?_; (case hd => rfl); (case hg => rfl); (case hr => first | (go_simp; done) | (go_simp; rfl)); intro gb244 hg w11 hbox hb; replace HB := Aside0.mk (below_step (by repeat (first | (with_reducible first | exact HB.out | apply below_alloc | apply pw_below_drewN | apply below_drew1 | refine below_set ?_ (IsS74.ge HI0.out)) | exact HB.out)) hb); have BK244 := Aside0.mk (hbox); have GW244 := Aside0.mk ((by rw [hg]; exact (keep_size (w := w) (g := g) (row := none) (by repeat (first | (with_reducible first | exact HK.out | apply KeepBut.set_ | apply keep_drewN | apply keep_drew | apply keep_alloc) | exact HK.out))) : w.heap.size ≤ gb244)); have GE244 := Aside0.mk ((Nat.le_trans HW0.out (by rw [hg]; exact (keep_size (w := w) (g := g) (row := none) (by repeat (first | (with_reducible first | exact HK.out | apply KeepBut.set_ | apply keep_drewN | apply keep_drew | apply keep_alloc) | exact HK.out))) : w.heap.size ≤ gb244) : w0.heap.size ≤ gb244)); replace HK := Aside0.mk (KeepBut.trans (by repeat (first | (with_reducible first | exact HK.out | apply KeepBut.set_ | apply keep_drewN | apply keep_drew | apply keep_alloc) | exact HK.out)) (KeepBut.of_below hb g none) (.inl rfl)); have NB0_244 := Aside0.mk ((by rw [hg]; exact Nat.ne_of_lt (IsS74.lt (show IsS74 w0 _ g s0_0 s0_1 from by repeat (first | (with_reducible first | exact HI0.out | apply IsS74.alloc | apply IsS74.drewN | apply IsS74.drew | apply IsS74.set_1) | exact HI0.out))) : g ≠ gb244)); have NB244_0 := Aside0.mk ((by rw [hg]; exact Nat.ne_of_gt (IsS74.lt (show IsS74 w0 _ g s0_0 s0_1 from by repeat (first | (with_reducible first | exact HI0.out | apply IsS74.alloc | apply IsS74.drewN | apply IsS74.drew | apply IsS74.set_1) | exact HI0.out))) : gb244 ≠ g)); replace HI0 := Aside0.mk (IsS74.below (by repeat (first | (with_reducible first | exact HI0.out | apply IsS74.alloc | apply IsS74.drewN | apply IsS74.drew | apply IsS74.set_1) | exact HI0.out)) hb); clear hb hbox hg) | ((with_reducible refine gate_dst (N := 8) rfl ?_); refine Kd.R_lit (Kd.int .i64) _ 3 ?hg (N := 8) ?hd (xs := ([4, 10, 50, 1000] : List Int)) (inner := [.int .i64 4, .int .i64 10, .int .i64 50, .int .i64 1000]) (ok := fun _ => True) (okp := fun _ => True) ?hr ?hp (fun _ hk => hk) trivial (Below.refl _ _) (Nat.le_refl _) (by simp) ?_; (case hd => rfl); (case hg => rfl); (case hr => first | (go_simp; done) | (go_simp; rfl)); (case hp => exact (Reps.one (show Kd.M (Kd.int .i64) _ _ _ 4 [.int .i64 4] from rfl) (Reps.one (show Kd.M (Kd.int .i64) _ _ _ 10 [.int .i64 10] from rfl) (Reps.one (show Kd.M (Kd.int .i64) _ _ _ 50 [.int .i64 50] from rfl) (Reps.one (show Kd.M (Kd.int .i64) _ _ _ 1000 [.int .i64 1000] from rfl) (Reps.none _ _)))))); intro v246 w12 ho13 hb hg_ hnew_; clear hg_ hnew_; (first | rw [← Ny245.out] at ho13 | (simp only [Int.reduceToNat] at ho13; rw [← Ny245.out] at ho13)); have HO247 := Aside0.mk (Kd.R_lower ho13 (keep_size (w := w) (g := g) (row := none) (by repeat (first | (with_reducible first | exact HK.out | apply KeepBut.set_ | apply keep_drewN | apply keep_drew | apply keep_alloc | refine keep_far ?_ GW244.out _) | exact HK.out)))); replace BK244 := sqT BK244 hb; replace HK := Aside0.mk (KeepBut.trans (by repeat (first | (with_reducible first | exact HK.out | apply KeepBut.set_ | apply keep_drewN | apply keep_drew | apply keep_alloc | refine keep_far ?_ GW244.out _) | exact HK.out)) (KeepBut.of_below hb g none) (.inl rfl)); replace HB := Aside0.mk (below_step (by repeat (first | (with_reducible first | exact HB.out | apply below_alloc | apply pw_below_drewN | apply below_drew1 | refine below_set ?_ (IsS74.ge HI0.out) | refine below_set ?_ GE244.out) | exact HB.out)) hb); replace HI0 := Aside0.mk (IsS74.below (by repeat (first | (with_reducible first | exact HI0.out | apply IsS74.alloc | apply IsS74.drewN | apply IsS74.drew | apply IsS74.set_1 | refine IsS74.far ?_ NB0_244.out _) | exact HI0.out)) hb); clear hb ho13) | ((with_reducible refine gate_callee (f := 41) rfl ?_); refine goesL_ (some 10) rfl rfl Tryd.func41 (by kernel_rfl) rfl #[.pointer (some ⟨g, 0, none⟩), .int .i64 4] rfl sqA ?_; (with_reducible refine (spec_l20Rd_pick.calls k g s0_0 s0_1 4 t248 t249 w0 _ ?side1 ?side2 A3.out).mono ?_); (case side1 => repeat (first | (with_reducible first | exact HI0.out | apply IsS74.alloc | apply IsS74.drewN | apply IsS74.drew | apply IsS74.set_1 | refine IsS74.far ?_ NB0_244.out _) | exact HI0.out)); (case side2 => repeat (first | (with_reducible first | exact HB.out | apply below_alloc | apply pw_below_drewN | apply below_drew1 | refine below_set ?_ (IsS74.ge HI0.out) | refine below_set ?_ GE244.out) | exact HB.out)); rintro e w14 ⟨rfl, hi, hb, hk⟩; refine ⟨_, rfl, ?_⟩; replace BK244 := Aside0.mk (KeepBut.blk hk (g' := gb244) (o := .cells #[.int .i64 0, .int .i64 0] 50 (0, 0)) (sqK BK244) NB244_0.out (by simp)); replace HO247 := Aside0.mk (Kd.R_mono (Kd.R_keep (IsS74.apart (show IsS74 w0 _ g s0_0 s0_1 from by repeat (first | (with_reducible first | exact HI0.out | apply IsS74.alloc | apply IsS74.drewN | apply IsS74.drew | apply IsS74.set_1 | refine IsS74.far ?_ NB0_244.out _) | exact HI0.out)) (sqR HO247) (by decide)) hk (fun _ h => h.2)) (fun _ h => h.1)); replace HK := Aside0.mk (KeepBut.trans (by repeat (first | (with_reducible first | exact HK.out | apply KeepBut.set_ | apply keep_drewN | apply keep_drew | apply keep_alloc | refine keep_far ?_ GW244.out _) | exact HK.out)) hk (.inl rfl)); replace HB := Aside0.mk (hb); replace HI0 := Aside0.mk (hi); (try clear hb); obtain ⟨Ao15, co15, eo15⟩ := Kd.R_slice HO247.out; subst eo15; have p250 : 0 ≤ (t248 : Int) := of_decide_eq_true (by first | (with_reducible assumption) | assumption); have q250 : t248 < (y245.length : Int) := of_decide_eq_true (by first | (with_reducible assumption) | assumption); obtain ⟨ad250, e250, hx250_0⟩ := Kd.at_int (Kd.R_reads' HO247.out).2.2 t248 p250 q250; cases e250; replace p250 := eq_true p250; replace q250 := eq_true q250) | ((with_reducible refine gate_callee (f := 41) rfl ?_); refine goesL_ (some 16) rfl rfl Tryd.func41 (by kernel_rfl) rfl #[.pointer (some ⟨g, 0, none⟩), .int .i64 (rd y245 t248)] rfl sqA ?_; (with_reducible refine (spec_l20Rd_pick.calls k g s0_0 t249 (rd y245 t248) t251 t252 w0 _ ?side1 ?side2 A6.out).mono ?_); (case side1 => repeat (first | (with_reducible first | exact HI0.out | apply IsS74.alloc | apply IsS74.drewN | apply IsS74.drew | apply IsS74.set_1 | refine IsS74.far ?_ NB0_244.out _) | exact HI0.out)); (case side2 => repeat (first | (with_reducible first | exact HB.out | apply below_alloc | apply pw_below_drewN | apply below_drew1 | refine below_set ?_ (IsS74.ge HI0.out) | refine below_set ?_ GE244.out) | exact HB.out)); rintro e w16 ⟨rfl, hi, hb, hk⟩; refine ⟨_, rfl, ?_⟩; replace BK244 := Aside0.mk (KeepBut.blk hk (g' := gb244) (o := .cells #[.int .i64 0, .int .i64 0] 50 (0, 0)) (sqK BK244) NB244_0.out (by simp)); replace HO247 := Aside0.mk (Kd.R_mono (Kd.R_keep (IsS74.apart (show IsS74 w0 _ g s0_0 t249 from by repeat (first | (with_reducible first | exact HI0.out | apply IsS74.alloc | apply IsS74.drewN | apply IsS74.drew | apply IsS74.set_1 | refine IsS74.far ?_ NB0_244.out _) | exact HI0.out)) (sqR HO247) (by decide)) hk (fun _ h => h.2)) (fun _ h => h.1)); replace HK := Aside0.mk (KeepBut.trans (by repeat (first | (with_reducible first | exact HK.out | apply KeepBut.set_ | apply keep_drewN | apply keep_drew | apply keep_alloc | refine keep_far ?_ GW244.out _) | exact HK.out)) hk (.inl rfl)); replace HB := Aside0.mk (hb); replace HI0 := Aside0.mk (hi); (try clear hb)) | ((with_reducible refine gate_callee (f := 41) rfl ?_); refine goesL_ (some 19) rfl rfl Tryd.func41 (by kernel_rfl) rfl #[.pointer (some ⟨g, 0, none⟩), .int .i64 (rd y245 t248)] rfl sqA ?_; (with_reducible refine (spec_l20Rd_pick.calls k g s0_0 t252 (rd y245 t248) t253 t254 w0 _ ?side1 ?side2 A7.out).mono ?_); (case side1 => repeat (first | (with_reducible first | exact HI0.out | apply IsS74.alloc | apply IsS74.drewN | apply IsS74.drew | apply IsS74.set_1 | refine IsS74.far ?_ NB0_244.out _) | exact HI0.out)); (case side2 => repeat (first | (with_reducible first | exact HB.out | apply below_alloc | apply pw_below_drewN | apply below_drew1 | refine below_set ?_ (IsS74.ge HI0.out) | refine below_set ?_ GE244.out) | exact HB.out)); rintro e w17 ⟨rfl, hi, hb, hk⟩; refine ⟨_, rfl, ?_⟩; replace BK244 := Aside0.mk (KeepBut.blk hk (g' := gb244) (o := .cells #[.int .i64 0, .int .i64 0] 50 (0, 0)) (sqK BK244) NB244_0.out (by simp)); replace HO247 := Aside0.mk (Kd.R_mono (Kd.R_keep (IsS74.apart (show IsS74 w0 _ g s0_0 t252 from by repeat (first | (with_reducible first | exact HI0.out | apply IsS74.alloc | apply IsS74.drewN | apply IsS74.drew | apply IsS74.set_1 | refine IsS74.far ?_ NB0_244.out _) | exact HI0.out)) (sqR HO247) (by decide)) hk (fun _ h => h.2)) (fun _ h => h.1)); replace HK := Aside0.mk (KeepBut.trans (by repeat (first | (with_reducible first | exact HK.out | apply KeepBut.set_ | apply keep_drewN | apply keep_drew | apply keep_alloc | refine keep_far ?_ GW244.out _) | exact HK.out)) hk (.inl rfl)); replace HB := Aside0.mk (hb); replace HI0 := Aside0.mk (hi); (try clear hb)) | ((with_reducible refine gate_callee (f := 41) rfl ?_); refine goesL_ (some 23) rfl rfl Tryd.func41 (by kernel_rfl) rfl #[.pointer (some ⟨g, 0, none⟩), .int .i64 (rd y245 t248)] rfl sqA ?_; (with_reducible refine (spec_l20Rd_pick.calls k g s0_0 t254 (rd y245 t248) t255 t256 w0 _ ?side1 ?side2 A8.out).mono ?_); (case side1 => repeat (first | (with_reducible first | exact HI0.out | apply IsS74.alloc | apply IsS74.drewN | apply IsS74.drew | apply IsS74.set_1 | refine IsS74.far ?_ NB0_244.out _) | exact HI0.out)); (case side2 => repeat (first | (with_reducible first | exact HB.out | apply below_alloc | apply pw_below_drewN | apply below_drew1 | refine below_set ?_ (IsS74.ge HI0.out) | refine below_set ?_ GE244.out) | exact HB.out)); rintro e w18 ⟨rfl, hi, hb, hk⟩; refine ⟨_, rfl, ?_⟩; replace BK244 := Aside0.mk (KeepBut.blk hk (g' := gb244) (o := .cells #[.int .i64 0, .int .i64 0] 50 (0, 0)) (sqK BK244) NB244_0.out (by simp)); replace HO247 := Aside0.mk (Kd.R_mono (Kd.R_keep (IsS74.apart (show IsS74 w0 _ g s0_0 t254 from by repeat (first | (with_reducible first | exact HI0.out | apply IsS74.alloc | apply IsS74.drewN | apply IsS74.drew | apply IsS74.set_1 | refine IsS74.far ?_ NB0_244.out _) | exact HI0.out)) (sqR HO247) (by decide)) hk (fun _ h => h.2)) (fun _ h => h.1)); replace HK := Aside0.mk (KeepBut.trans (by repeat (first | (with_reducible first | exact HK.out | apply KeepBut.set_ | apply keep_drewN | apply keep_drew | apply keep_alloc | refine keep_far ?_ GW244.out _) | exact HK.out)) hk (.inl rfl)); replace HB := Aside0.mk (hb); replace HI0 := Aside0.mk (hi); (try clear hb)) | ((with_reducible refine gate_callee (f := 63) rfl ?_); refine goesL_ (some 24) rfl rfl Tryd.func63 (by kernel_rfl) rfl #[.int .i64 (wrap64 (t251 - t253)), .int .i64 t255] rfl sqA ?_; (with_reducible refine (spec_LowestOf.calls k (wrap64 (t251 - t253)) t255 t257 t258 t259 _ A9.out).mono ?_); rintro e w19 ⟨rfl, hb⟩; refine ⟨_, rfl, ?_⟩; replace HO247 := sqU HO247 hb; replace BK244 := sqT BK244 hb; replace HK := Aside0.mk (KeepBut.trans (by repeat (first | (with_reducible first | exact HK.out | apply KeepBut.set_ | apply keep_drewN | apply keep_drew | apply keep_alloc | refine keep_far ?_ GW244.out _) | exact HK.out)) (KeepBut.of_below hb g none) (.inl rfl)); replace HB := Aside0.mk (below_step (by repeat (first | (with_reducible first | exact HB.out | apply below_alloc | apply pw_below_drewN | apply below_drew1 | refine below_set ?_ (IsS74.ge HI0.out) | refine below_set ?_ GE244.out) | exact HB.out)) hb); replace HI0 := Aside0.mk (IsS74.below (by repeat (first | (with_reducible first | exact HI0.out | apply IsS74.alloc | apply IsS74.drewN | apply IsS74.drew | apply IsS74.set_1 | refine IsS74.far ?_ NB0_244.out _) | exact HI0.out)) hb); (try clear hb)) | ((with_reducible refine gate_dst (N := 6) rfl ?_); refine box_event ?hg (N := 6) ?hd (cs := #[.int .i64 0, .int .i64 0]) (t := 50) ?hr ?_; (case hd => rfl); (case hg => rfl); (case hr => first | (go_simp; done) | (go_simp; rfl)); intro gb260 hg w20 hbox hb; replace HO247 := sqU HO247 hb; replace HB := Aside0.mk (below_step (by repeat (first | (with_reducible first | exact HB.out | apply below_alloc | apply pw_below_drewN | apply below_drew1 | refine below_set ?_ (IsS74.ge HI0.out) | refine below_set ?_ GE244.out) | exact HB.out)) hb); have BK260 := Aside0.mk (hbox); have GW260 := Aside0.mk ((by rw [hg]; exact (keep_size (w := w) (g := g) (row := none) (by repeat (first | (with_reducible first | exact HK.out | apply KeepBut.set_ | apply keep_drewN | apply keep_drew | apply keep_alloc | refine keep_far ?_ GW244.out _) | exact HK.out))) : w.heap.size ≤ gb260)); have GE260 := Aside0.mk ((Nat.le_trans HW0.out (by rw [hg]; exact (keep_size (w := w) (g := g) (row := none) (by repeat (first | (with_reducible first | exact HK.out | apply KeepBut.set_ | apply keep_drewN | apply keep_drew | apply keep_alloc | refine keep_far ?_ GW244.out _) | exact HK.out))) : w.heap.size ≤ gb260) : w0.heap.size ≤ gb260)); replace HK := Aside0.mk (KeepBut.trans (by repeat (first | (with_reducible first | exact HK.out | apply KeepBut.set_ | apply keep_drewN | apply keep_drew | apply keep_alloc | refine keep_far ?_ GW244.out _) | exact HK.out)) (KeepBut.of_below hb g none) (.inl rfl)); have NB244_260 := Aside0.mk ((by rw [hg]; exact Nat.ne_of_lt (blk_lt (sqK BK244)) : gb244 ≠ gb260)); have NB260_244 := Aside0.mk ((by rw [hg]; exact Nat.ne_of_gt (blk_lt (sqK BK244)) : gb260 ≠ gb244)); replace BK244 := sqT BK244 hb; have NB0_260 := Aside0.mk ((by rw [hg]; exact Nat.ne_of_lt (IsS74.lt (show IsS74 w0 _ g s0_0 t256 from by repeat (first | (with_reducible first | exact HI0.out | apply IsS74.alloc | apply IsS74.drewN | apply IsS74.drew | apply IsS74.set_1 | refine IsS74.far ?_ NB0_244.out _) | exact HI0.out))) : g ≠ gb260)); have NB260_0 := Aside0.mk ((by rw [hg]; exact Nat.ne_of_gt (IsS74.lt (show IsS74 w0 _ g s0_0 t256 from by repeat (first | (with_reducible first | exact HI0.out | apply IsS74.alloc | apply IsS74.drewN | apply IsS74.drew | apply IsS74.set_1 | refine IsS74.far ?_ NB0_244.out _) | exact HI0.out))) : gb260 ≠ g)); replace HI0 := Aside0.mk (IsS74.below (by repeat (first | (with_reducible first | exact HI0.out | apply IsS74.alloc | apply IsS74.drewN | apply IsS74.drew | apply IsS74.set_1 | refine IsS74.far ?_ NB0_244.out _) | exact HI0.out)) hb); clear hb hbox hg; have hnb21 := NB260_244.out; have hnc21 := NB244_260.out; have hnb22 := NB260_0.out; have hnc22 := NB0_260.out; have hcz23_0 := sqZ BK260 0 (.int .i64 0); have hcz23_1 := sqZ BK260 1 (.int .i64 0); have hfz23_0 := blk_frozen BK260.out 0; have hfz23_1 := blk_frozen BK260.out 1))
      (try simp only [Act.put, List.setIfInBounds_toArray, List.set_cons_zero, List.set_cons_succ])
      go_cut [] (fun wc => ∃ (kq : Nat) (x261000_9 : Int) (x261001_9 : Int), Aside0 (spec_l20Fraction.j0 kq a1 s0_0 t256 x261000_9 x261001_9 = some (r1, r2, r3)) ∧ Aside0 (kq ≤ k) ∧ Aside0 (wc.heap[gb244]? = some (.cells #[.int .i64 0, .int .i64 0] 50 (0, 0))) ∧ Aside0 (wc.heap[gb260]? = some (.cells #[.int .i64 x261000_9, .int .i64 x261001_9] 50 (0, 0))) ∧ Aside0 (IsS74 w0 wc g s0_0 t256) ∧ Aside0 (KeepBut w wc g none) ∧ Aside0 (Below w0.heap.size w0 wc))
      case first =>
        have H := HC10.out
        clear HC10
        by_cases c24 : t259 = true
        · subst c24
          have H1 : (spec_l20Fraction.j0 k a1 s0_0 t256 t257 t258) = some (r1, r2, r3) := by rw [if_pos rfl] at H; exact H
          clear H
          have H := H1
          clear H1
          have H' := Aside0.mk H
          clear H
          go_wp2
          go_meet
          case rel => exact ⟨_, (t257), (t258), H', ⟨by first | omega | exact Nat.le_refl _⟩, ⟨by (with_reducible repeat (first | refine blk_drewN ?_ _ | refine blk_drew ?_ | refine blk_alloc ?_ _)); refine blk_far ?_ NB244_260.out _; (with_reducible repeat (first | refine blk_drewN ?_ _ | refine blk_drew ?_ | refine blk_alloc ?_ _)); refine blk_far ?_ NB244_260.out _; (with_reducible repeat (first | refine blk_drewN ?_ _ | refine blk_drew ?_ | refine blk_alloc ?_ _)); exact BK244.out⟩, ⟨by (with_reducible repeat (first | refine blk_drewN ?_ _ | refine blk_drew ?_ | refine blk_alloc ?_ _)); refine blk_put (cs := #[.int .i64 t257, .int .i64 0]) ?_ 1 _ rfl; (with_reducible repeat (first | refine blk_drewN ?_ _ | refine blk_drew ?_ | refine blk_alloc ?_ _)); refine blk_put (cs := #[.int .i64 0, .int .i64 0]) ?_ 0 _ rfl; (with_reducible repeat (first | refine blk_drewN ?_ _ | refine blk_drew ?_ | refine blk_alloc ?_ _)); exact BK260.out⟩, ⟨by repeat (first | (with_reducible first | exact HI0.out | apply IsS74.alloc | apply IsS74.drewN | apply IsS74.drew | apply IsS74.set_1 | refine IsS74.far ?_ NB0_244.out _ | refine IsS74.far ?_ NB0_260.out _) | exact HI0.out)⟩, ⟨by repeat (first | (with_reducible first | exact HK.out | apply KeepBut.set_ | apply keep_drewN | apply keep_drew | apply keep_alloc | refine keep_far ?_ GW244.out _ | refine keep_far ?_ GW260.out _) | exact HK.out)⟩, ⟨by repeat (first | (with_reducible first | exact HB.out | apply below_alloc | apply pw_below_drewN | apply below_drew1 | refine below_set ?_ (IsS74.ge HI0.out) | refine below_set ?_ GE244.out | refine below_set ?_ GE260.out) | exact HB.out)⟩⟩
        · replace c24 := Bool.eq_false_iff.mpr c24
          subst c24
          have H1 : (spec_l20Fraction.j0 k a1 s0_0 t256 1 0) = some (r1, r2, r3) := by rw [if_neg (show ¬ (false = true) by decide)] at H; exact H
          clear H
          have H := H1
          clear H1
          have H' := Aside0.mk H
          clear H
          have hnb25 := NB260_244.out
          have hnc25 := NB244_260.out
          have hnb26 := NB260_0.out
          have hnc26 := NB0_260.out
          have hcz27_0 := sqZ BK260 0 (.int .i64 0)
          have hcz27_1 := sqZ BK260 1 (.int .i64 0)
          have hfz27_0 := blk_frozen BK260.out 0
          have hfz27_1 := blk_frozen BK260.out 1
          go_wp2
          go_meet
          case rel => exact ⟨_, (1), (0), H', ⟨by first | omega | exact Nat.le_refl _⟩, ⟨by (with_reducible repeat (first | refine blk_drewN ?_ _ | refine blk_drew ?_ | refine blk_alloc ?_ _)); refine blk_far ?_ NB244_260.out _; (with_reducible repeat (first | refine blk_drewN ?_ _ | refine blk_drew ?_ | refine blk_alloc ?_ _)); refine blk_far ?_ NB244_260.out _; (with_reducible repeat (first | refine blk_drewN ?_ _ | refine blk_drew ?_ | refine blk_alloc ?_ _)); refine blk_far ?_ NB244_260.out _; (with_reducible repeat (first | refine blk_drewN ?_ _ | refine blk_drew ?_ | refine blk_alloc ?_ _)); refine blk_far ?_ NB244_260.out _; (with_reducible repeat (first | refine blk_drewN ?_ _ | refine blk_drew ?_ | refine blk_alloc ?_ _)); exact BK244.out⟩, ⟨by (with_reducible repeat (first | refine blk_drewN ?_ _ | refine blk_drew ?_ | refine blk_alloc ?_ _)); refine blk_put (cs := #[.int .i64 1, .int .i64 t258]) ?_ 1 _ rfl; (with_reducible repeat (first | refine blk_drewN ?_ _ | refine blk_drew ?_ | refine blk_alloc ?_ _)); refine blk_put (cs := #[.int .i64 t257, .int .i64 t258]) ?_ 0 _ rfl; (with_reducible repeat (first | refine blk_drewN ?_ _ | refine blk_drew ?_ | refine blk_alloc ?_ _)); refine blk_put (cs := #[.int .i64 t257, .int .i64 0]) ?_ 1 _ rfl; (with_reducible repeat (first | refine blk_drewN ?_ _ | refine blk_drew ?_ | refine blk_alloc ?_ _)); refine blk_put (cs := #[.int .i64 0, .int .i64 0]) ?_ 0 _ rfl; (with_reducible repeat (first | refine blk_drewN ?_ _ | refine blk_drew ?_ | refine blk_alloc ?_ _)); exact BK260.out⟩, ⟨by repeat (first | (with_reducible first | exact HI0.out | apply IsS74.alloc | apply IsS74.drewN | apply IsS74.drew | apply IsS74.set_1 | refine IsS74.far ?_ NB0_244.out _ | refine IsS74.far ?_ NB0_260.out _) | exact HI0.out)⟩, ⟨by repeat (first | (with_reducible first | exact HK.out | apply KeepBut.set_ | apply keep_drewN | apply keep_drew | apply keep_alloc | refine keep_far ?_ GW244.out _ | refine keep_far ?_ GW260.out _) | exact HK.out)⟩, ⟨by repeat (first | (with_reducible first | exact HB.out | apply below_alloc | apply pw_below_drewN | apply below_drew1 | refine below_set ?_ (IsS74.ge HI0.out) | refine below_set ?_ GE244.out | refine below_set ?_ GE260.out) | exact HB.out)⟩⟩
      case rest =>
        clear HC10
        try clear c2
        try clear p2
        try clear q2
        try clear hx2
        try clear c4
        try clear c4b0
        try clear c5
        try clear c5b0
        try clear c6
        try clear p6
        try clear c21
        try clear c22
        try clear c24
        try clear c25
        try clear p25
        try clear q25
        try clear hx25
        try clear c26
        try clear hcz23_0
        try clear hcz23_1
        try clear hcz27_0
        try clear hcz27_1
        try clear hfz23_0
        try clear hfz23_1
        try clear hfz27_0
        try clear hfz27_1
        try clear hx250_0
        try clear p250
        try clear q250
        obtain ⟨kq, x261000_9, x261001_9, HA, HJ9, BK244, BK260, HI0, HK, HB⟩ := hcut
        cases kq with
        | zero => exact absurd HA.out (by simp [spec_l20Fraction.j0])
        | succ kj9 =>
          have H := HA.out
          clear HA
          simp only [spec_l20Fraction.j0] at H
          replace H := Option.bind_eq_some_iff.mp H
          obtain ⟨⟨t261, t262⟩, A280, H⟩ := H
          replace H : (if t261 = true then ((some (([(⟨0, 0⟩ : S50), (⟨2, 4⟩ : S50), (⟨1, (-2)⟩ : S50), (⟨(-1), 0⟩ : S50), (⟨1000001, 1⟩ : S50)] : List (S50)) : List (S50))).bind fun y263 => ((spec_l20Rd_pick.f kj9 s0_0 t262 5).bind fun bt266 => (if 0 ≤ bt266.1 then (if bt266.1 < (y263.length : Int) then (some ((rd_T50 y263 bt266.1).f0, (rd_T50 y263 bt266.1).f1, bt266.2)) else (none)) else (none)))) else (some (x261000_9, x261001_9, t262))) = some (r1, r2, r3) := H
          have A28 := Aside0.mk A280
          clear A280
          by_cases c29 : t261 = true
          · subst c29
            have H1 : ((some (([(⟨0, 0⟩ : S50), (⟨2, 4⟩ : S50), (⟨1, (-2)⟩ : S50), (⟨(-1), 0⟩ : S50), (⟨1000001, 1⟩ : S50)] : List (S50)) : List (S50))).bind fun y263 => ((spec_l20Rd_pick.f kj9 s0_0 t262 5).bind fun bt266 => (if 0 ≤ bt266.1 then (if bt266.1 < (y263.length : Int) then (some ((rd_T50 y263 bt266.1).f0, (rd_T50 y263 bt266.1).f1, bt266.2)) else (none)) else (none)))) = some (r1, r2, r3) := by rw [if_pos rfl] at H; exact H
            clear H
            have H := H1
            clear H1
            obtain ⟨y263, hy263⟩ : ∃ y_ : List (S50), y_ = (([(⟨0, 0⟩ : S50), (⟨2, 4⟩ : S50), (⟨1, (-2)⟩ : S50), (⟨(-1), 0⟩ : S50), (⟨1000001, 1⟩ : S50)] : List (S50))) := ⟨_, rfl⟩
            replace H : ((spec_l20Rd_pick.f kj9 s0_0 t262 5).bind fun bt266 => (if 0 ≤ bt266.1 then (if bt266.1 < (y263.length : Int) then (some ((rd_T50 y263 bt266.1).f0, (rd_T50 y263 bt266.1).f1, bt266.2)) else (none)) else (none))) = some (r1, r2, r3) := by first | (rw [hy263]; with_reducible exact H) | (have H2_ := (Option.bind_some _ _).symm.trans H; rw [hy263]; with_reducible exact H2_) | (have H2_ := (Option.bind_some _ _).symm.trans H; with_reducible exact H2_) | with_reducible exact H | (rw [hy263]; exact H) | exact H
            have Ny263 := Aside0.mk hy263
            clear hy263
            replace H := Option.bind_eq_some_iff.mp H
            obtain ⟨⟨t266, t267⟩, A300, H⟩ := H
            replace H : (if 0 ≤ t266 then (if t266 < (y263.length : Int) then (some ((rd_T50 y263 t266).f0, (rd_T50 y263 t266).f1, t267)) else (none)) else (none)) = some (r1, r2, r3) := H
            have A30 := Aside0.mk A300
            clear A300
            by_cases c31 : 0 ≤ t266
            · rw [if_pos c31] at H
              have c31b0 : decide (0 ≤ t266) = true := decide_eq_true c31
              clear c31
              by_cases c32 : t266 < (y263.length : Int)
              · rw [if_pos c32] at H
                have c32b0 : decide (t266 < (y263.length : Int)) = true := decide_eq_true c32
                clear c32
                simp only [Option.some.injEq, Prod.mk.injEq] at H
                obtain ⟨rfl, rfl, rfl⟩ := H
                go_wp2_with (first | ((with_reducible refine gate_callee (f := 44) rfl ?_); refine goesL_ (some 32) rfl rfl Tryd.func44 (by kernel_rfl) rfl #[.pointer (some ⟨g, 0, none⟩), .int .i64 a1] rfl sqA ?_; (with_reducible refine (spec_l20Rd_odd.calls kj9 g s0_0 t256 a1 true t262 w0 _ ?side1 ?side2 A28.out).mono ?_); (case side1 => repeat (first | (with_reducible first | exact HI0.out | apply IsS74.alloc | apply IsS74.drewN | apply IsS74.drew | apply IsS74.set_1 | refine IsS74.far ?_ NB0_244.out _ | refine IsS74.far ?_ NB0_260.out _) | exact HI0.out)); (case side2 => repeat (first | (with_reducible first | exact HB.out | apply below_alloc | apply pw_below_drewN | apply below_drew1 | refine below_set ?_ (IsS74.ge HI0.out) | refine below_set ?_ GE244.out | refine below_set ?_ GE260.out) | exact HB.out)); rintro e w33 ⟨rfl, hi, hb, hk⟩; refine ⟨_, rfl, ?_⟩; replace BK244 := Aside0.mk (KeepBut.blk hk (g' := gb244) (o := .cells #[.int .i64 0, .int .i64 0] 50 (0, 0)) (sqK BK244) NB244_0.out (by simp)); replace BK260 := Aside0.mk (KeepBut.blk hk (g' := gb260) (o := .cells #[.int .i64 x261000_9, .int .i64 x261001_9] 50 (0, 0)) (sqK BK260) NB260_0.out (by simp)); replace HK := Aside0.mk (KeepBut.trans (by repeat (first | (with_reducible first | exact HK.out | apply KeepBut.set_ | apply keep_drewN | apply keep_drew | apply keep_alloc | refine keep_far ?_ GW244.out _ | refine keep_far ?_ GW260.out _) | exact HK.out)) hk (.inl rfl)); replace HB := Aside0.mk (hb); replace HI0 := Aside0.mk (hi); (try clear hb)) | ((with_reducible refine gate_dst (N := 38) rfl ?_); refine Kd.R_lit k50 _ 50 ?hg (N := 38) ?hd (xs := ([(⟨0, 0⟩ : S50), (⟨2, 4⟩ : S50), (⟨1, (-2)⟩ : S50), (⟨(-1), 0⟩ : S50), (⟨1000001, 1⟩ : S50)] : List (S50))) (inner := [.int .i64 0, .int .i64 0, .int .i64 2, .int .i64 4, .int .i64 1, .int .i64 (-2), .int .i64 (-1), .int .i64 0, .int .i64 1000001, .int .i64 1]) (ok := fun _ => True) (okp := fun _ => True) ?hr ?hp (fun _ hk => hk) trivial (Below.refl _ _) (Nat.le_refl _) (by simp) ?_; (case hd => rfl); (case hg => rfl); (case hr => first | (go_simp; done) | (go_simp; rfl)); (case hp => exact (Reps.c2 (show Kd.M k50 _ _ _ (⟨0, 0⟩ : S50) [.int .i64 0, .int .i64 0] from (k50_mkM _ _ _ (⟨0, 0⟩ : S50) )) (Reps.c2 (show Kd.M k50 _ _ _ (⟨2, 4⟩ : S50) [.int .i64 2, .int .i64 4] from (k50_mkM _ _ _ (⟨2, 4⟩ : S50) )) (Reps.c2 (show Kd.M k50 _ _ _ (⟨1, (-2)⟩ : S50) [.int .i64 1, .int .i64 (-2)] from (k50_mkM _ _ _ (⟨1, (-2)⟩ : S50) )) (Reps.c2 (show Kd.M k50 _ _ _ (⟨(-1), 0⟩ : S50) [.int .i64 (-1), .int .i64 0] from (k50_mkM _ _ _ (⟨(-1), 0⟩ : S50) )) (Reps.c2 (show Kd.M k50 _ _ _ (⟨1000001, 1⟩ : S50) [.int .i64 1000001, .int .i64 1] from (k50_mkM _ _ _ (⟨1000001, 1⟩ : S50) )) (Reps.none _ _))))))); intro v264 w34 ho35 hb hg_ hnew_; clear hg_ hnew_; (first | rw [← Ny263.out] at ho35 | (simp only [Int.reduceToNat] at ho35; rw [← Ny263.out] at ho35)); have HO265 := Aside0.mk (Kd.R_lower (Kd.R_newB (Kd.R_newB ho35 (sqK BK244)) (sqK BK260)) (keep_size (w := w) (g := g) (row := none) (by repeat (first | (with_reducible first | exact HK.out | apply KeepBut.set_ | apply keep_drewN | apply keep_drew | apply keep_alloc | refine keep_far ?_ GW244.out _ | refine keep_far ?_ GW260.out _) | exact HK.out)))); replace BK244 := sqT BK244 hb; replace BK260 := sqT BK260 hb; replace HK := Aside0.mk (KeepBut.trans (by repeat (first | (with_reducible first | exact HK.out | apply KeepBut.set_ | apply keep_drewN | apply keep_drew | apply keep_alloc | refine keep_far ?_ GW244.out _ | refine keep_far ?_ GW260.out _) | exact HK.out)) (KeepBut.of_below hb g none) (.inl rfl)); replace HB := Aside0.mk (below_step (by repeat (first | (with_reducible first | exact HB.out | apply below_alloc | apply pw_below_drewN | apply below_drew1 | refine below_set ?_ (IsS74.ge HI0.out) | refine below_set ?_ GE244.out | refine below_set ?_ GE260.out) | exact HB.out)) hb); replace HI0 := Aside0.mk (IsS74.below (by repeat (first | (with_reducible first | exact HI0.out | apply IsS74.alloc | apply IsS74.drewN | apply IsS74.drew | apply IsS74.set_1 | refine IsS74.far ?_ NB0_244.out _ | refine IsS74.far ?_ NB0_260.out _) | exact HI0.out)) hb); clear hb ho35) | ((with_reducible refine gate_callee (f := 41) rfl ?_); refine goesL_ (some 40) rfl rfl Tryd.func41 (by kernel_rfl) rfl #[.pointer (some ⟨g, 0, none⟩), .int .i64 5] rfl sqA ?_; (with_reducible refine (spec_l20Rd_pick.calls kj9 g s0_0 t262 5 t266 t267 w0 _ ?side1 ?side2 A30.out).mono ?_); (case side1 => repeat (first | (with_reducible first | exact HI0.out | apply IsS74.alloc | apply IsS74.drewN | apply IsS74.drew | apply IsS74.set_1 | refine IsS74.far ?_ NB0_244.out _ | refine IsS74.far ?_ NB0_260.out _) | exact HI0.out)); (case side2 => repeat (first | (with_reducible first | exact HB.out | apply below_alloc | apply pw_below_drewN | apply below_drew1 | refine below_set ?_ (IsS74.ge HI0.out) | refine below_set ?_ GE244.out | refine below_set ?_ GE260.out) | exact HB.out)); rintro e w36 ⟨rfl, hi, hb, hk⟩; refine ⟨_, rfl, ?_⟩; replace BK244 := Aside0.mk (KeepBut.blk hk (g' := gb244) (o := .cells #[.int .i64 0, .int .i64 0] 50 (0, 0)) (sqK BK244) NB244_0.out (by simp)); replace BK260 := Aside0.mk (KeepBut.blk hk (g' := gb260) (o := .cells #[.int .i64 x261000_9, .int .i64 x261001_9] 50 (0, 0)) (sqK BK260) NB260_0.out (by simp)); replace HO265 := Aside0.mk (Kd.R_mono (Kd.R_keep (IsS74.apart (show IsS74 w0 _ g s0_0 t262 from by repeat (first | (with_reducible first | exact HI0.out | apply IsS74.alloc | apply IsS74.drewN | apply IsS74.drew | apply IsS74.set_1 | refine IsS74.far ?_ NB0_244.out _ | refine IsS74.far ?_ NB0_260.out _) | exact HI0.out)) (sqR HO265) (by decide)) hk (fun _ h => h.2)) (fun _ h => h.1)); replace HK := Aside0.mk (KeepBut.trans (by repeat (first | (with_reducible first | exact HK.out | apply KeepBut.set_ | apply keep_drewN | apply keep_drew | apply keep_alloc | refine keep_far ?_ GW244.out _ | refine keep_far ?_ GW260.out _) | exact HK.out)) hk (.inl rfl)); replace HB := Aside0.mk (hb); replace HI0 := Aside0.mk (hi); (try clear hb); obtain ⟨Ao37, co37, eo37⟩ := Kd.R_slice HO265.out; subst eo37; have p268 : 0 ≤ (t266 : Int) := of_decide_eq_true (by first | (with_reducible assumption) | assumption); have q268 : t266 < (y263.length : Int) := of_decide_eq_true (by first | (with_reducible assumption) | assumption); obtain ⟨ad268, e268, hx268_0, hx268_1⟩ := at_T50 (Kd.R_reads' HO265.out).2.2 t266 p268 q268; cases e268; replace p268 := eq_true p268; replace q268 := eq_true q268; have hnb38 := NB244_260.out; have hnc38 := NB260_244.out; have hnb39 := NB244_0.out; have hnc39 := NB0_244.out; have hcz40_0 := sqZ BK244 0 (.int .i64 0); have hcz40_1 := sqZ BK244 1 (.int .i64 0); have hfz40_0 := blk_frozen BK244.out 0; have hfz40_1 := blk_frozen BK244.out 1))
                refine bodyPost_ret (results_cell_row rfl _ _ gb244 50 #[.int .i64 ((rd_T50 y263 t266).f0), .int .i64 ((rd_T50 y263 t266).f1)] (0, 0) _ rfl (by (with_reducible repeat (first | refine blk_drewN ?_ _ | refine blk_drew ?_ | refine blk_alloc ?_ _)); refine blk_put (cs := #[.int .i64 ((rd_T50 y263 t266).f0), .int .i64 0]) ?_ 1 _ rfl; (with_reducible repeat (first | refine blk_drewN ?_ _ | refine blk_drew ?_ | refine blk_alloc ?_ _)); refine blk_put (cs := #[.int .i64 0, .int .i64 0]) ?_ 0 _ rfl; (with_reducible repeat (first | refine blk_drewN ?_ _ | refine blk_drew ?_ | refine blk_alloc ?_ _)); exact BK244.out) Tryd.underlying50 rfl (by kernel_rfl)) rfl ?_
                exact ⟨by first | rfl | (simp [errP_none, errP_some] <;> rfl) | (simp [*, errP_none, errP_some] <;> rfl), by repeat (first | (with_reducible first | exact HI0.out | apply IsS74.alloc | apply IsS74.drewN | apply IsS74.drew | apply IsS74.set_1 | refine IsS74.far ?_ NB0_244.out _ | refine IsS74.far ?_ NB0_260.out _) | exact HI0.out), by repeat (first | (with_reducible first | exact HB.out | apply below_alloc | apply pw_below_drewN | apply below_drew1 | refine below_set ?_ (IsS74.ge HI0.out) | refine below_set ?_ GE244.out | refine below_set ?_ GE260.out) | exact HB.out), by repeat (first | (with_reducible first | exact HK.out | apply KeepBut.set_ | apply keep_drewN | apply keep_drew | apply keep_alloc | refine keep_far ?_ GW244.out _ | refine keep_far ?_ GW260.out _) | exact HK.out)⟩
              · rw [if_neg c32] at H
                exact absurd H (by simp)
            · rw [if_neg c31] at H
              exact absurd H (by simp)
          · replace c29 := Bool.eq_false_iff.mpr c29
            subst c29
            have H1 : (some (x261000_9, x261001_9, t262)) = some (r1, r2, r3) := by rw [if_neg (show ¬ (false = true) by decide)] at H; exact H
            clear H
            have H := H1
            clear H1
            simp only [Option.some.injEq, Prod.mk.injEq] at H
            obtain ⟨rfl, rfl, rfl⟩ := H
            go_wp2_with (first | ((with_reducible refine gate_callee (f := 44) rfl ?_); refine goesL_ (some 32) rfl rfl Tryd.func44 (by kernel_rfl) rfl #[.pointer (some ⟨g, 0, none⟩), .int .i64 a1] rfl sqA ?_; (with_reducible refine (spec_l20Rd_odd.calls kj9 g s0_0 t256 a1 false t262 w0 _ ?side1 ?side2 A28.out).mono ?_); (case side1 => repeat (first | (with_reducible first | exact HI0.out | apply IsS74.alloc | apply IsS74.drewN | apply IsS74.drew | apply IsS74.set_1 | refine IsS74.far ?_ NB0_244.out _ | refine IsS74.far ?_ NB0_260.out _) | exact HI0.out)); (case side2 => repeat (first | (with_reducible first | exact HB.out | apply below_alloc | apply pw_below_drewN | apply below_drew1 | refine below_set ?_ (IsS74.ge HI0.out) | refine below_set ?_ GE244.out | refine below_set ?_ GE260.out) | exact HB.out)); rintro e w41 ⟨rfl, hi, hb, hk⟩; refine ⟨_, rfl, ?_⟩; replace BK244 := Aside0.mk (KeepBut.blk hk (g' := gb244) (o := .cells #[.int .i64 0, .int .i64 0] 50 (0, 0)) (sqK BK244) NB244_0.out (by simp)); replace BK260 := Aside0.mk (KeepBut.blk hk (g' := gb260) (o := .cells #[.int .i64 x261000_9, .int .i64 x261001_9] 50 (0, 0)) (sqK BK260) NB260_0.out (by simp)); replace HK := Aside0.mk (KeepBut.trans (by repeat (first | (with_reducible first | exact HK.out | apply KeepBut.set_ | apply keep_drewN | apply keep_drew | apply keep_alloc | refine keep_far ?_ GW244.out _ | refine keep_far ?_ GW260.out _) | exact HK.out)) hk (.inl rfl)); replace HB := Aside0.mk (hb); replace HI0 := Aside0.mk (hi); (try clear hb); have hnb42 := NB260_244.out; have hnc42 := NB244_260.out; have hnb43 := NB260_0.out; have hnc43 := NB0_260.out; have hcz44_0 := sqZ BK260 0 (.int .i64 x261000_9); have hcz44_1 := sqZ BK260 1 (.int .i64 x261001_9); have hfz44_0 := blk_frozen BK260.out 0; have hfz44_1 := blk_frozen BK260.out 1; have hnb45 := NB244_0.out; have hnc45 := NB0_244.out; have hcz46_0 := sqZ BK244 0 (.int .i64 0); have hcz46_1 := sqZ BK244 1 (.int .i64 0); have hfz46_0 := blk_frozen BK244.out 0; have hfz46_1 := blk_frozen BK244.out 1))
            refine bodyPost_ret (results_cell_row rfl _ _ gb244 50 #[.int .i64 x261000_9, .int .i64 x261001_9] (0, 0) _ rfl (by (with_reducible repeat (first | refine blk_drewN ?_ _ | refine blk_drew ?_ | refine blk_alloc ?_ _)); refine blk_put (cs := #[.int .i64 x261000_9, .int .i64 0]) ?_ 1 _ rfl; (with_reducible repeat (first | refine blk_drewN ?_ _ | refine blk_drew ?_ | refine blk_alloc ?_ _)); refine blk_put (cs := #[.int .i64 0, .int .i64 0]) ?_ 0 _ rfl; (with_reducible repeat (first | refine blk_drewN ?_ _ | refine blk_drew ?_ | refine blk_alloc ?_ _)); exact BK244.out) Tryd.underlying50 rfl (by kernel_rfl)) rfl ?_
            exact ⟨by first | rfl | (simp [errP_none, errP_some] <;> rfl) | (simp [*, errP_none, errP_some] <;> rfl), by repeat (first | (with_reducible first | exact HI0.out | apply IsS74.alloc | apply IsS74.drewN | apply IsS74.drew | apply IsS74.set_1 | refine IsS74.far ?_ NB0_244.out _ | refine IsS74.far ?_ NB0_260.out _) | exact HI0.out), by repeat (first | (with_reducible first | exact HB.out | apply below_alloc | apply pw_below_drewN | apply below_drew1 | refine below_set ?_ (IsS74.ge HI0.out) | refine below_set ?_ GE244.out | refine below_set ?_ GE260.out) | exact HB.out), by repeat (first | (with_reducible first | exact HK.out | apply KeepBut.set_ | apply keep_drewN | apply keep_drew | apply keep_alloc | refine keep_far ?_ GW244.out _ | refine keep_far ?_ GW260.out _) | exact HK.out)⟩
    · rw [if_neg c5] at H
      exact absurd H (by simp)
  · rw [if_neg c4] at H
    exact absurd H (by simp)

end Go.Proofs.YtnojjblkmepblaaDoor.PFnReadDeed
