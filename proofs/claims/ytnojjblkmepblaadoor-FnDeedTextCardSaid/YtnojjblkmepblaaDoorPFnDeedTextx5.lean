/- Lean functions of the Go functions that the law FnDeedText reaches, each with its contract: made by a program of this session. -/
import Derived.Test.YtnojjblkmepblaaDoorPFnDeedTextx0
import Derived.Test.YtnojjblkmepblaaDoorPFnDeedTextx1
import Derived.Test.YtnojjblkmepblaaDoorPFnDeedTextx4
namespace Go.Proofs.YtnojjblkmepblaaDoor.PFnDeedText
open Go.RowKit Go.Proofs.YtnojjblkmepblaaDoorW.PrintWords Go.Proofs.YtnojjblkmepblaaDoorW.PrintLast Go.Proofs.YtnojjblkmepblaaDoorW.PrintMore Go.Proofs.YtnojjblkmepblaaDoor.Lib
attribute [local go_sem] max2_int min2_int max_two min_two max_three min_three max_four min_four   -- for this text's walks alone
set_option linter.unusedVariables false
set_option linter.unusedSimpArgs false

attribute [local go_sem high] eqA26
/-! ### impl_fractionText: function 59 -/
def impl_fractionText.f (a0_0 : Int) (a0_1 : Int) : Option (ByteArray) := if a0_1 = 1 then ((strconv_Itoa.f a0_0).bind fun t156 => (some t156)) else ((strconv_Itoa.f a0_0).bind fun t157 => (if t157.size + 1 ≤ 9223372036854775807 then ((strconv_Itoa.f a0_1).bind fun t158 => (if (t157 ++ (⟨#[47]⟩ : ByteArray)).size + t158.size ≤ 9223372036854775807 then (some ((t157 ++ (⟨#[47]⟩ : ByteArray)) ++ t158)) else (none))) else (none)))
def impl_fractionText.T3 : Bool × List (List Nat × List Nat) := (true, [([], []), ([0], [0]), ([1], [1]), ([2], [2]), ([], []), ([4], [4]), ([5, 2], [5]), ([3, 6], [3, 6]), ([7, 6, 0, 1, 2, 3, 4, 5, 6, 7], [7])])
def impl_fractionText.B3 : List Nat := [0, 1, 3, 7, 0, 16, 55, 127, 255]
theorem impl_fractionText.tab3 : rtab .any (opsOf Tryd.f59 3) = impl_fractionText.T3 := by kernel_rfl
theorem impl_fractionText.bits3 : waitsOk impl_fractionText.T3.2 impl_fractionText.B3 = true := by kernel_rfl
set_option maxHeartbeats 8000000 in
set_option maxRecDepth 100000 in
theorem impl_fractionText.calls (a0_0 : Int) (a0_1 : Int) (r : ByteArray) (w : World) (hG : Glob w) (h : impl_fractionText.f a0_0 a0_1 = some r) :
    Calls Tryd.prog 59 #[.agg #[.int .i64 a0_0, .int .i64 a0_1]] w fun e w' => e = .returned (.string r) ∧ Below w.heap.size w w' := by
  have hu50 := Tryd.underlying50
  have HB := Aside0.mk (Below.refl w.heap.size w)
  have H : (if a0_1 = 1 then ((strconv_Itoa.f a0_0).bind fun t156 => (some t156)) else ((strconv_Itoa.f a0_0).bind fun t157 => (if t157.size + 1 ≤ 9223372036854775807 then ((strconv_Itoa.f a0_1).bind fun t158 => (if (t157 ++ (⟨#[47]⟩ : ByteArray)).size + t158.size ≤ 9223372036854775807 then (some ((t157 ++ (⟨#[47]⟩ : ByteArray)) ++ t158)) else (none))) else (none)))) = some r := h
  clear h
  by_cases c2 : a0_1 = 1
  · rw [if_pos c2] at H
    have c2b0 : (a0_1 == 1) = true := beq_iff_eq.mpr c2
    have c2b1 : (a0_1 != 1) = false := bne_eq_false_iff_eq.mpr c2
    clear c2
    replace H := Option.bind_eq_some_iff.mp H
    obtain ⟨t156, A30, H⟩ := H
    replace H : (some t156) = some r := H
    have A3 := Aside0.mk A30
    clear A30
    obtain rfl := Option.some.inj H
    go_enter Tryd.func59, Tryd.ntmps59
    go_wp2_with (first | ((with_reducible refine gate_dst (N := 1) rfl ?_); refine box_event ?hg (N := 1) ?hd (cs := #[.int .i64 a0_0, .int .i64 a0_1]) (t := 50) ?hr ?_; (case hd => rfl); (case hg => rfl); (case hr => first | (go_simp; done) | (go_simp; rfl)); intro gb155 hg w4 hbox hb; have BK155 := Aside0.mk (hbox); have GW155 := Aside0.mk ((sqG hg (sqB HB))); have GE155 := Aside0.mk ((sqG hg (sqB HB))); replace HB := sqS (sqB HB) hb; clear hb hbox hg; have hcz5_0 := sqZ BK155 0 (.int .i64 a0_0); have hcz5_1 := sqZ BK155 1 (.int .i64 a0_1); have hfz5_0 := blk_frozen BK155.out 0; have hfz5_1 := blk_frozen BK155.out 1) | ((with_reducible refine gate_callee (f := 69) rfl ?_); refine goesL_ (some 8) rfl rfl Tryd.func69 (by kernel_rfl) rfl #[.int .i64 a0_0] rfl sqA ?_; (with_reducible refine (strconv_Itoa.calls a0_0 t156 _ ?sideG A3.out).mono ?_); (case sideG => exact Glob.below hG (sqB1 HB GE155)); rintro e w6 ⟨rfl, hb⟩; refine ⟨_, rfl, ?_⟩; replace BK155 := sqT BK155 hb; replace HB := sqS (sqB1 HB GE155) hb; (try clear hb)))
    go_ret
    exact ⟨by first | rfl | (simp [errP_none, errP_some] <;> rfl) | (simp [*, errP_none, errP_some] <;> rfl), sqB1 HB GE155⟩
  · rw [if_neg c2] at H
    have c2b0 : (a0_1 == 1) = false := beq_eq_false_iff_ne.mpr c2
    have c2b1 : (a0_1 != 1) = true := bne_iff_ne.mpr c2
    replace H := Option.bind_eq_some_iff.mp H
    obtain ⟨t157, A70, H⟩ := H
    replace H : (if t157.size + 1 ≤ 9223372036854775807 then ((strconv_Itoa.f a0_1).bind fun t158 => (if (t157 ++ (⟨#[47]⟩ : ByteArray)).size + t158.size ≤ 9223372036854775807 then (some ((t157 ++ (⟨#[47]⟩ : ByteArray)) ++ t158)) else (none))) else (none)) = some r := H
    have A7 := Aside0.mk A70
    clear A70
    by_cases c8 : t157.size + 1 ≤ 9223372036854775807
    · rw [if_pos c8] at H
      have c8b0 := eq_true c8
      have c8b1 : decide (t157.size + 1 ≤ 9223372036854775807) = true := decide_eq_true c8
      try have c8b2 : (9223372036854775807 < t157.size + 1) = False := eq_false (Nat.not_lt.2 c8)
      replace H := Option.bind_eq_some_iff.mp H
      obtain ⟨t158, A90, H⟩ := H
      replace H : (if (t157 ++ (⟨#[47]⟩ : ByteArray)).size + t158.size ≤ 9223372036854775807 then (some ((t157 ++ (⟨#[47]⟩ : ByteArray)) ++ t158)) else (none)) = some r := H
      have A9 := Aside0.mk A90
      clear A90
      by_cases c10 : (t157 ++ (⟨#[47]⟩ : ByteArray)).size + t158.size ≤ 9223372036854775807
      · rw [if_pos c10] at H
        have c10b0 := eq_true c10
        have c10b1 : decide ((t157 ++ (⟨#[47]⟩ : ByteArray)).size + t158.size ≤ 9223372036854775807) = true := decide_eq_true c10
        try have c10b2 : (9223372036854775807 < (t157 ++ (⟨#[47]⟩ : ByteArray)).size + t158.size) = False := eq_false (Nat.not_lt.2 c10)
        try have c10b7 : (9223372036854775807 < t157.size + 1 + t158.size) = False := by (have h_ := c10b2; (repeat rw [ByteArray.size_append] at h_); exact h_)
        obtain rfl := Option.some.inj H
        go_enter Tryd.func59, Tryd.ntmps59
        try go_wp2_with (first | ((with_reducible refine gate_dst (N := 1) rfl ?_); refine box_event ?hg (N := 1) ?hd (cs := #[.int .i64 a0_0, .int .i64 a0_1]) (t := 50) ?hr ?_; (case hd => rfl); (case hg => rfl); (case hr => first | (go_simp; done) | (go_simp; rfl)); intro gb155 hg w11 hbox hb; have BK155 := Aside0.mk (hbox); have GW155 := Aside0.mk ((sqG hg (sqB HB))); have GE155 := Aside0.mk ((sqG hg (sqB HB))); replace HB := sqS (sqB HB) hb; clear hb hbox hg; have hcz12_0 := sqZ BK155 0 (.int .i64 a0_0); have hcz12_1 := sqZ BK155 1 (.int .i64 a0_1); have hfz12_0 := blk_frozen BK155.out 0; have hfz12_1 := blk_frozen BK155.out 1))
        replace BK155 := Aside0.mk (blk_drew BK155.out)
        replace HB := Aside0.mk (below_drew1 HB.out)
        refine start_ (n := 9) (S := fun w' => w'.cell? ⟨gb155, 0, none⟩ = some (.int .i64 a0_0) ∧ w'.cell? ⟨gb155, 1, none⟩ = some (.int .i64 a0_1)) (ds := []) #[false, false, false, false, false, false, false, false, false] (by kernel_rfl) rfl rfl ⟨(blk_cell BK155.out 0).trans rfl, (blk_cell BK155.out 1).trans rfl⟩ (fun hHeld => ?_); refine with_tabW impl_fractionText.tab3 impl_fractionText.bits3 (fun HT_ HW_ => ?_)
        generalize w11.drew = w13 at BK155 HB hHeld ⊢
        refine pure_ (i := 0) (N := some 9) (v := ?_) (a' := ?_) #[true, false, false, false, false, false, false, false, false] rfl rfl (any_of HT_.out (by kernel_rfl)) (fun _ _ _ h => h) (Or.inl ⟨by rfl, ?_⟩) ?_ ?_
        rotate_left
        · intro w'
          go_simp
          with_reducible rfl
        rotate_left
        · simp only [Act.put, List.setIfInBounds_toArray, List.set_cons_zero, List.set_cons_succ, i64_w, i32_w]
          rfl
        refine pure_ (i := 4) (N := some 13) (v := ?_) (a' := ?_) #[true, false, false, false, true, false, false, false, false] rfl rfl (any_of HT_.out (by kernel_rfl)) (fun _ _ _ h => h) (Or.inl ⟨by rfl, ?_⟩) ?_ ?_
        rotate_left
        · intro w'
          go_simp
          with_reducible rfl
        rotate_left
        · simp only [Act.put, List.setIfInBounds_toArray, List.set_cons_zero, List.set_cons_succ, i64_w, i32_w]
          rfl
        refine take_ (i := 1) (N := some 10) (v := ?_) (a' := ?_) #[true, true, false, false, true, false, false, false, false] rfl rfl (take_ofW HT_.out HW_.out (by kernel_rfl)) (fun _ _ _ h => h) (Or.inl ⟨by rfl, ?_⟩) hHeld ?_ ?_
        rotate_left
        · rintro w' ⟨s0, s1⟩
          go_simp
          with_reducible rfl
        rotate_left
        · simp only [Act.put, List.setIfInBounds_toArray, List.set_cons_zero, List.set_cons_succ, i64_w, i32_w]
          rfl
        refine take_ (i := 5) (N := some 14) (v := ?_) (a' := ?_) #[true, true, false, false, true, true, false, false, false] rfl rfl (take_ofW HT_.out HW_.out (by kernel_rfl)) (fun _ _ _ h => h) (Or.inl ⟨by rfl, ?_⟩) hHeld ?_ ?_
        rotate_left
        · rintro w' ⟨s0, s1⟩
          go_simp
          with_reducible rfl
        rotate_left
        · simp only [Act.put, List.setIfInBounds_toArray, List.set_cons_zero, List.set_cons_succ, i64_w, i32_w]
          rfl
        refine one_ (i := 2) (N := some 11) #[true, true, true, false, true, true, false, false, false] rfl rfl (one_of HT_.out (by kernel_rfl)) (by decide) (fun K hK => ?_)
        refine goes_ Tryd.func69 (by kernel_rfl) rfl #[.int .i64 a0_0] (by rfl) rfl rfl sqA ?_
        with_reducible refine (strconv_Itoa.calls a0_0 t157 _ ?sideG A7.out).mono ?_
        (case sideG => exact Glob.below hG (sqB1 HB GE155))
        rintro e w14 ⟨rfl, hb⟩
        refine ⟨_, rfl, ?_⟩
        replace BK155 := sqT BK155 hb
        replace HB := sqS (sqB1 HB GE155) hb
        (try clear hb)
        (try clear hb2)
        (try clear hk)
        (try clear hi)
        refine hK.out _ _ ⟨(blk_cell BK155.out 0).trans rfl, (blk_cell BK155.out 1).trans rfl⟩ (fun hHeld => ?_)
        clear hK K
        refine norm_ (a' := ?_) ?_ ?_
        rotate_left
        · show Act.put _ (some 11) _ = _
          simp only [Act.put, List.setIfInBounds_toArray, List.set_cons_zero, List.set_cons_succ, i64_w, i32_w]
          rfl
        refine pure_ (i := 3) (N := some 12) (v := ?_) (a' := ?_) #[true, true, true, true, true, true, false, false, false] rfl rfl (any_of HT_.out (by kernel_rfl)) (fun _ _ _ h => h) (Or.inl ⟨by rfl, ?_⟩) ?_ ?_
        rotate_left
        · intro w'
          go_simp
          with_reducible rfl
        rotate_left
        · simp only [Act.put, List.setIfInBounds_toArray, List.set_cons_zero, List.set_cons_succ, i64_w, i32_w]
          rfl
        refine one_ (i := 6) (N := some 15) #[true, true, true, true, true, true, true, false, false] rfl rfl (one_of HT_.out (by kernel_rfl)) (by decide) (fun K hK => ?_)
        refine goes_ Tryd.func69 (by kernel_rfl) rfl #[.int .i64 a0_1] (by rfl) rfl rfl sqA ?_
        with_reducible refine (strconv_Itoa.calls a0_1 t158 _ ?sideG A9.out).mono ?_
        (case sideG => exact Glob.below hG (sqB1 HB GE155))
        rintro e w15 ⟨rfl, hb⟩
        refine ⟨_, rfl, ?_⟩
        replace BK155 := sqT BK155 hb
        replace HB := sqS (sqB1 HB GE155) hb
        (try clear hb)
        (try clear hb2)
        (try clear hk)
        (try clear hi)
        refine hK.out _ _ ⟨(blk_cell BK155.out 0).trans rfl, (blk_cell BK155.out 1).trans rfl⟩ (fun hHeld => ?_)
        clear hK K
        refine norm_ (a' := ?_) ?_ ?_
        rotate_left
        · show Act.put _ (some 15) _ = _
          simp only [Act.put, List.setIfInBounds_toArray, List.set_cons_zero, List.set_cons_succ, i64_w, i32_w]
          rfl
        refine pure_ (i := 7) (N := some 16) (v := ?_) (a' := ?_) #[true, true, true, true, true, true, true, true, false] rfl rfl (any_of HT_.out (by kernel_rfl)) (fun _ _ _ h => h) (Or.inl ⟨by rfl, ?_⟩) ?_ ?_
        rotate_left
        · intro w'
          go_simp
          with_reducible rfl
        rotate_left
        · simp only [Act.put, List.setIfInBounds_toArray, List.set_cons_zero, List.set_cons_succ, i64_w, i32_w]
          rfl
        refine pure_ (i := 8) (N := some 2) (v := ?_) (a' := ?_) #[true, true, true, true, true, true, true, true, true] rfl rfl (any_of HT_.out (by kernel_rfl)) (fun _ _ _ h => h) (Or.inl ⟨by rfl, ?_⟩) ?_ ?_
        rotate_left
        · intro w'
          go_simp
          with_reducible rfl
        rotate_left
        · simp only [Act.put, List.setIfInBounds_toArray, List.set_cons_zero, List.set_cons_succ, i64_w, i32_w]
          rfl
        refine done_ (done_of HT_.out (by kernel_rfl)) ?_
        try go_wp2
        go_ret
        exact ⟨by first | rfl | (simp [errP_none, errP_some] <;> rfl) | (simp [*, errP_none, errP_some] <;> rfl), sqB1 HB GE155⟩
      · rw [if_neg c10] at H
        exact absurd H (by simp)
    · rw [if_neg c8] at H
      exact absurd H (by simp)

/-! ### impl_ReadFraction: function 47 -/
def impl_ReadFraction.j0 : Nat → ByteArray → Int → Option Int → Int → Option (Int × Int × Bool)
  | 0, _, _, _, _ => none
  | k + 1, x0, x7, x8, x9 => if x8.isNone = true then ((impl_isFraction.f k x7 x9).bind fun t170 => (if t170 = true then ((impl_fractionText.f x7 x9).bind fun t171 => (if t171.toList = x0.toList then (some (x7, x9, true)) else (some (0, 0, false)))) else (some (0, 0, false)))) else (some (0, 0, false))
def impl_ReadFraction.f (k : Nat) (a0 : ByteArray) : Option (Int × Int × Bool) := (strings_Cut.f a0 (⟨#[47]⟩ : ByteArray)).bind fun bt160 => ((strconv_Atoi.f bt160.1).bind fun bt163 => (if bt160.2.2 = true then ((strconv_Atoi.f bt160.2.1).bind fun bt165 => (if bt165.2.isNone = true then (impl_ReadFraction.j0 k a0 bt163.1 bt163.2 bt165.1) else (some (0, 0, false)))) else (impl_ReadFraction.j0 k a0 bt163.1 bt163.2 1)))
theorem impl_ReadFraction.mono_l : ∀ k, (∀ y0 y1 y2 y3, LeO (impl_ReadFraction.j0 k y0 y1 y2 y3) (impl_ReadFraction.j0 (k + 1) y0 y1 y2 y3))
  | 0 => fun _ _ _ _ r h => by simp [impl_ReadFraction.j0] at h
  | k + 1 => by
    have ih0 := impl_ReadFraction.mono_l k
    · intro y0 y1 y2 y3
      unfold impl_ReadFraction.j0
      repeat' first
      | (with_reducible exact ih0 _ _ _ _)
      | (with_reducible exact impl_isFraction.mono _ _ _)
      | (with_reducible exact LeO.refl _)
      | (with_reducible exact LeO.none _)
      | (with_reducible refine LeO.ite ?_ ?_)
      | (with_reducible refine LeO.bind ?_ (fun _ => ?_))
      | exact ih0 _ _ _ _
      | exact impl_isFraction.mono _ _ _
      | exact LeO.none _
      | refine LeO.ite ?_ ?_
      | refine LeO.bind ?_ (fun _ => ?_)
theorem impl_ReadFraction.mono : ∀ a0 k, LeO (impl_ReadFraction.f k a0) (impl_ReadFraction.f (k + 1) a0) := by
  intro a0 k
  have ih0 := impl_ReadFraction.mono_l k
  unfold impl_ReadFraction.f
  repeat' first
      | (with_reducible exact ih0 _ _ _ _)
      | (with_reducible exact impl_isFraction.mono _ _ _)
      | (with_reducible exact LeO.refl _)
      | (with_reducible exact LeO.none _)
      | (with_reducible refine LeO.ite ?_ ?_)
      | (with_reducible refine LeO.bind ?_ (fun _ => ?_))
      | exact ih0 _ _ _ _
      | exact impl_isFraction.mono _ _ _
      | exact LeO.none _
      | refine LeO.ite ?_ ?_
      | refine LeO.bind ?_ (fun _ => ?_)
set_option maxHeartbeats 8000000 in
set_option maxRecDepth 100000 in
theorem impl_ReadFraction.calls (k : Nat) (a0 : ByteArray) (r1 : Int) (r2 : Int) (r3 : Bool) (w : World) (hG : Glob w) (h : impl_ReadFraction.f k a0 = some (r1, r2, r3)) :
    Calls Tryd.prog 47 #[.string a0] w fun e w' => e = .returned (.tuple #[.agg #[.int .i64 r1, .int .i64 r2], .bool r3]) ∧ Below w.heap.size w w' := by
  have hu50 := Tryd.underlying50
  have hu77 := Tryd.underlying77
  have HB := Aside0.mk (Below.refl w.heap.size w)
  have H : ((strings_Cut.f a0 (⟨#[47]⟩ : ByteArray)).bind fun bt160 => ((strconv_Atoi.f bt160.1).bind fun bt163 => (if bt160.2.2 = true then ((strconv_Atoi.f bt160.2.1).bind fun bt165 => (if bt165.2.isNone = true then (impl_ReadFraction.j0 k a0 bt163.1 bt163.2 bt165.1) else (some (0, 0, false)))) else (impl_ReadFraction.j0 k a0 bt163.1 bt163.2 1)))) = some (r1, r2, r3) := h
  clear h
  replace H := Option.bind_eq_some_iff.mp H
  obtain ⟨⟨t160, t161, t162⟩, A20, H⟩ := H
  replace H : ((strconv_Atoi.f t160).bind fun bt163 => (if t162 = true then ((strconv_Atoi.f t161).bind fun bt165 => (if bt165.2.isNone = true then (impl_ReadFraction.j0 k a0 bt163.1 bt163.2 bt165.1) else (some (0, 0, false)))) else (impl_ReadFraction.j0 k a0 bt163.1 bt163.2 1))) = some (r1, r2, r3) := H
  have A2 := Aside0.mk A20
  clear A20
  replace H := Option.bind_eq_some_iff.mp H
  obtain ⟨⟨t163, t164⟩, A30, H⟩ := H
  replace H : (if t162 = true then ((strconv_Atoi.f t161).bind fun bt165 => (if bt165.2.isNone = true then (impl_ReadFraction.j0 k a0 t163 t164 bt165.1) else (some (0, 0, false)))) else (impl_ReadFraction.j0 k a0 t163 t164 1)) = some (r1, r2, r3) := H
  have A3 := Aside0.mk A30
  clear A30
  have HC4 := Aside0.mk H
  clear H
  go_enter Tryd.func47, Tryd.ntmps47
  go_upto_if 24 with (first | ((with_reducible refine gate_dst (N := 2) rfl ?_); refine box_event ?hg (N := 2) ?hd (cs := #[.int .i64 0, .int .i64 0]) (t := 50) ?hr ?_; (case hd => rfl); (case hg => rfl); (case hr => first | (go_simp; done) | (go_simp; rfl)); intro gb159 hg w5 hbox hb; have BK159 := Aside0.mk (hbox); have GW159 := Aside0.mk ((sqG hg (sqB HB))); have GE159 := Aside0.mk ((sqG hg (sqB HB))); replace HB := sqS (sqB HB) hb; clear hb hbox hg) | ((with_reducible refine gate_callee (f := 36) rfl ?_); refine goesL_ (some 15) rfl rfl Tryd.func36 (by kernel_rfl) rfl #[.string a0, .string (⟨#[47]⟩ : ByteArray)] rfl sqA ?_; (with_reducible refine (strings_Cut.calls a0 (⟨#[47]⟩ : ByteArray) t160 t161 t162 _ ?sideG A2.out).mono ?_); (case sideG => exact Glob.below hG (sqB1 HB GE159)); rintro e w6 ⟨rfl, hb⟩; refine ⟨_, rfl, ?_⟩; replace BK159 := sqT BK159 hb; replace HB := sqS (sqB1 HB GE159) hb; (try clear hb)) | ((with_reducible refine gate_callee (f := 58) rfl ?_); refine goesL_ (some 21) rfl rfl Tryd.func58 (by kernel_rfl) rfl #[.string t160] rfl sqA ?_; (with_reducible refine (strconv_Atoi.calls t160 t163 t164 _ ?sideG A3.out).mono ?_); (case sideG => exact Glob.below hG (sqB1 HB GE159)); rintro e w7 ⟨q_t164, hq_t164, rfl, hb⟩; refine ⟨_, rfl, ?_⟩; replace BK159 := sqT BK159 hb; replace HB := sqS (sqB1 HB GE159) hb; (try clear hb); (try simp only [errP_none, errP_some])))
  (try simp only [Act.put, List.setIfInBounds_toArray, List.set_cons_zero, List.set_cons_succ])
  go_cut [9] (fun v9 wc => ∃ (kq : Nat) (x9_3 : Int) (x160000_3 : Int) (x160001_3 : Int), v9 = .int .i64 x9_3 ∧ Aside0 (impl_ReadFraction.j0 kq a0 t163 t164 x9_3 = some (r1, r2, r3)) ∧ Aside0 (kq ≤ k) ∧ Aside0 (wc.heap[gb159]? = some (.cells #[.int .i64 x160000_3, .int .i64 x160001_3] 50 (0, 0))) ∧ Aside0 (Below w.heap.size w wc))
  case first =>
    have H := HC4.out
    clear HC4
    by_cases c8 : t162 = true
    · subst c8
      have H1 : ((strconv_Atoi.f t161).bind fun bt165 => (if bt165.2.isNone = true then (impl_ReadFraction.j0 k a0 t163 t164 bt165.1) else (some (0, 0, false)))) = some (r1, r2, r3) := by rw [if_pos rfl] at H; exact H
      clear H
      have H := H1
      clear H1
      replace H := Option.bind_eq_some_iff.mp H
      obtain ⟨⟨t165, t166⟩, A90, H⟩ := H
      replace H : (if t166.isNone = true then (impl_ReadFraction.j0 k a0 t163 t164 t165) else (some (0, 0, false))) = some (r1, r2, r3) := H
      have A9 := Aside0.mk A90
      clear A90
      rcases t166 with _ | q167
      · have H1 : (impl_ReadFraction.j0 k a0 t163 t164 t165) = some (r1, r2, r3) := by rw [if_pos (show (none : Option Int).isNone = true by rfl)] at H; exact H
        clear H
        have H := H1
        clear H1
        try simp only [errP_none, errP_some]
        have H' := Aside0.mk H
        clear H
        go_wp2_with (first | ((with_reducible refine gate_callee (f := 58) rfl ?_); refine goesL_ (some 27) rfl rfl Tryd.func58 (by kernel_rfl) rfl #[.string t161] rfl sqA ?_; (with_reducible refine (strconv_Atoi.calls t161 t165 none _ ?sideG A9.out).mono ?_); (case sideG => exact Glob.below hG (sqB1 HB GE159)); rintro e w10 ⟨qe, hqe, rfl, hb⟩; obtain rfl := isNone_none hqe; refine ⟨_, rfl, ?_⟩; replace BK159 := sqT BK159 hb; replace HB := sqS (sqB1 HB GE159) hb; (try clear hb); (try simp only [errP_none, errP_some])))
        go_meet
        case rel => exact ⟨_, (t165), (0), (0), (by first | rfl | (simp; done) | (simp [*]; done)), H', ⟨by first | omega | exact Nat.le_refl _⟩, ⟨sqK BK159⟩, ⟨sqB1 HB GE159⟩⟩
      · have H1 : (some (0, 0, false)) = some (r1, r2, r3) := by rw [if_neg (show ¬ (some q167).isNone = true by simp)] at H; exact H
        clear H
        have H := H1
        clear H1
        try simp only [errP_none, errP_some]
        simp only [Option.some.injEq, Prod.mk.injEq] at H
        obtain ⟨rfl, rfl, rfl⟩ := H
        go_wp2_with (first | ((with_reducible refine gate_callee (f := 58) rfl ?_); refine goesL_ (some 27) rfl rfl Tryd.func58 (by kernel_rfl) rfl #[.string t161] rfl sqA ?_; (with_reducible refine (strconv_Atoi.calls t161 t165 (some q167) _ ?sideG A9.out).mono ?_); (case sideG => exact Glob.below hG (sqB1 HB GE159)); rintro e w11 ⟨qe, hqe, rfl, hb⟩; obtain ⟨qz, rfl⟩ := isNone_some hqe; refine ⟨_, rfl, ?_⟩; replace BK159 := sqT BK159 hb; replace HB := sqS (sqB1 HB GE159) hb; (try clear hb); (try simp only [errP_none, errP_some]); have hcz12_0 := sqZ BK159 0 (.int .i64 0); have hcz12_1 := sqZ BK159 1 (.int .i64 0); have hfz12_0 := blk_frozen BK159.out 0; have hfz12_1 := blk_frozen BK159.out 1))
        refine bodyPost_ret (results_ct rfl _ _ gb159 50 #[.int .i64 0, .int .i64 0] (0, 0) _ rfl (by (with_reducible repeat (first | refine blk_drewN ?_ _ | refine blk_drew ?_ | refine blk_alloc ?_ _)); refine blk_put (cs := #[.int .i64 0, .int .i64 0]) ?_ 1 _ rfl; (with_reducible repeat (first | refine blk_drewN ?_ _ | refine blk_drew ?_ | refine blk_alloc ?_ _)); refine blk_put (cs := #[.int .i64 0, .int .i64 0]) ?_ 0 _ rfl; (with_reducible repeat (first | refine blk_drewN ?_ _ | refine blk_drew ?_ | refine blk_alloc ?_ _)); exact BK159.out) Tryd.underlying50 rfl (by kernel_rfl)) rfl ?_
        exact ⟨by first | rfl | (simp [errP_none, errP_some] <;> rfl) | (simp [*, errP_none, errP_some] <;> rfl), sqB1 HB GE159⟩
    · replace c8 := Bool.eq_false_iff.mpr c8
      subst c8
      have H1 : (impl_ReadFraction.j0 k a0 t163 t164 1) = some (r1, r2, r3) := by rw [if_neg (show ¬ (false = true) by decide)] at H; exact H
      clear H
      have H := H1
      clear H1
      have H' := Aside0.mk H
      clear H
      go_wp2
      go_meet
      case rel => exact ⟨_, (1), (0), (0), (by first | rfl | (simp; done) | (simp [*]; done)), H', ⟨by first | omega | exact Nat.le_refl _⟩, ⟨sqK BK159⟩, ⟨sqB1 HB GE159⟩⟩
  case rest =>
    clear HC4
    try clear q1
    try clear p2
    try clear c3
    try clear c4
    try clear c5
    try clear c8
    try clear hcz12_0
    try clear hcz12_1
    try clear hfz12_0
    try clear hfz12_1
    try clear q167
    obtain ⟨kq, x9_3, x160000_3, x160001_3, rfl, HA, HJ3, BK159, HB⟩ := hcut
    cases kq with
    | zero => exact absurd HA.out (by simp [impl_ReadFraction.j0])
    | succ kj3 =>
      have H := HA.out
      clear HA
      simp only [impl_ReadFraction.j0] at H
      rcases t164 with _ | q169
      · obtain rfl := isNone_none hq_t164
        have H1 : ((impl_isFraction.f kj3 t163 x9_3).bind fun t170 => (if t170 = true then ((impl_fractionText.f t163 x9_3).bind fun t171 => (if t171.toList = a0.toList then (some (t163, x9_3, true)) else (some (0, 0, false)))) else (some (0, 0, false)))) = some (r1, r2, r3) := by rw [if_pos (show (none : Option Int).isNone = true by rfl)] at H; exact H
        clear H
        have H := H1
        clear H1
        try simp only [errP_none, errP_some]
        replace H := Option.bind_eq_some_iff.mp H
        obtain ⟨t170, A130, H⟩ := H
        replace H : (if t170 = true then ((impl_fractionText.f t163 x9_3).bind fun t171 => (if t171.toList = a0.toList then (some (t163, x9_3, true)) else (some (0, 0, false)))) else (some (0, 0, false))) = some (r1, r2, r3) := H
        have A13 := Aside0.mk A130
        clear A130
        by_cases c14 : t170 = true
        · subst c14
          have H1 : ((impl_fractionText.f t163 x9_3).bind fun t171 => (if t171.toList = a0.toList then (some (t163, x9_3, true)) else (some (0, 0, false)))) = some (r1, r2, r3) := by rw [if_pos rfl] at H; exact H
          clear H
          have H := H1
          clear H1
          replace H := Option.bind_eq_some_iff.mp H
          obtain ⟨t171, A150, H⟩ := H
          replace H : (if t171.toList = a0.toList then (some (t163, x9_3, true)) else (some (0, 0, false))) = some (r1, r2, r3) := H
          have A15 := Aside0.mk A150
          clear A150
          by_cases c16 : t171.toList = a0.toList
          · rw [if_pos c16] at H
            have c16b0 : (t171.toList == a0.toList) = true := beq_iff_eq.mpr c16
            have c16b1 : (t171.toList != a0.toList) = false := bne_eq_false_iff_eq.mpr c16
            clear c16
            simp only [Option.some.injEq, Prod.mk.injEq] at H
            obtain ⟨rfl, rfl, rfl⟩ := H
            go_wp2_with (first | ((with_reducible refine gate_dst (N := 12) rfl ?_); refine box_event ?hg (N := 12) ?hd (cs := #[.int .i64 0, .int .i64 0]) (t := 50) ?hr ?_; (case hd => rfl); (case hg => rfl); (case hr => first | (go_simp; done) | (go_simp; rfl)); intro gb168 hg w17 hbox hb; have BK168 := Aside0.mk (hbox); have GW168 := Aside0.mk ((sqG hg (sqB1 HB GE159))); have GE168 := Aside0.mk ((sqG hg (sqB1 HB GE159))); replace HB := sqS (sqB1 HB GE159) hb; have NB159_168 := Aside0.mk ((by rw [hg]; exact Nat.ne_of_lt (blk_lt (sqK BK159)) : gb159 ≠ gb168)); have NB168_159 := Aside0.mk ((by rw [hg]; exact Nat.ne_of_gt (blk_lt (sqK BK159)) : gb168 ≠ gb159)); replace BK159 := sqT BK159 hb; clear hb hbox hg; have hnb18 := NB168_159.out; have hnc18 := NB159_168.out; have hcz19_0 := sqZ BK168 0 (.int .i64 0); have hcz19_1 := sqZ BK168 1 (.int .i64 0); have hfz19_0 := blk_frozen BK168.out 0; have hfz19_1 := blk_frozen BK168.out 1) | (go_at_call 53; (with_reducible refine (impl_isFraction.calls kj3 t163 x9_3 true _ A13.out).mono ?_); rintro e w20 ⟨rfl, hb⟩; replace BK159 := Aside0.mk (blk_below (g := gb159) (o := .cells #[.int .i64 x160000_3, .int .i64 x160001_3] 50 (0, 0)) (by (with_reducible repeat (first | refine blk_drewN ?_ _ | refine blk_drew ?_ | refine blk_alloc ?_ _)); refine blk_far ?_ NB159_168.out _; (with_reducible repeat (first | refine blk_drewN ?_ _ | refine blk_drew ?_ | refine blk_alloc ?_ _)); refine blk_far ?_ NB159_168.out _; (with_reducible repeat (first | refine blk_drewN ?_ _ | refine blk_drew ?_ | refine blk_alloc ?_ _)); exact BK159.out) hb); replace BK168 := Aside0.mk (blk_below (g := gb168) (o := .cells #[.int .i64 t163, .int .i64 x9_3] 50 (0, 0)) (by (with_reducible repeat (first | refine blk_drewN ?_ _ | refine blk_drew ?_ | refine blk_alloc ?_ _)); refine blk_put (cs := #[.int .i64 t163, .int .i64 0]) ?_ 1 _ rfl; (with_reducible repeat (first | refine blk_drewN ?_ _ | refine blk_drew ?_ | refine blk_alloc ?_ _)); refine blk_put (cs := #[.int .i64 0, .int .i64 0]) ?_ 0 _ rfl; (with_reducible repeat (first | refine blk_drewN ?_ _ | refine blk_drew ?_ | refine blk_alloc ?_ _)); exact BK168.out) hb); replace HB := sqS (sqB2 HB GE159 GE168) hb; (try clear hb); have hcz21_0 := sqZ BK168 0 (.int .i64 t163); have hcz21_1 := sqZ BK168 1 (.int .i64 x9_3); have hfz21_0 := blk_frozen BK168.out 0; have hfz21_1 := blk_frozen BK168.out 1) | (go_at_call 59; (with_reducible refine (impl_fractionText.calls t163 x9_3 t171 _ ?sideG A15.out).mono ?_); (case sideG => exact Glob.below hG (sqB2 HB GE159 GE168)); rintro e w22 ⟨rfl, hb⟩; replace BK159 := sqT BK159 hb; replace BK168 := sqT BK168 hb; replace HB := sqS (sqB2 HB GE159 GE168) hb; (try clear hb); have hcz23_0 := sqZ BK168 0 (.int .i64 t163); have hcz23_1 := sqZ BK168 1 (.int .i64 x9_3); have hfz23_0 := blk_frozen BK168.out 0; have hfz23_1 := blk_frozen BK168.out 1; have hcz24_0 := sqZ BK159 0 (.int .i64 x160000_3); have hcz24_1 := sqZ BK159 1 (.int .i64 x160001_3); have hfz24_0 := blk_frozen BK159.out 0; have hfz24_1 := blk_frozen BK159.out 1))
            refine bodyPost_ret (results_ct rfl _ _ gb159 50 #[.int .i64 t163, .int .i64 x9_3] (0, 0) _ rfl (by (with_reducible repeat (first | refine blk_drewN ?_ _ | refine blk_drew ?_ | refine blk_alloc ?_ _)); refine blk_put (cs := #[.int .i64 t163, .int .i64 x160001_3]) ?_ 1 _ rfl; (with_reducible repeat (first | refine blk_drewN ?_ _ | refine blk_drew ?_ | refine blk_alloc ?_ _)); refine blk_put (cs := #[.int .i64 x160000_3, .int .i64 x160001_3]) ?_ 0 _ rfl; (with_reducible repeat (first | refine blk_drewN ?_ _ | refine blk_drew ?_ | refine blk_alloc ?_ _)); exact BK159.out) Tryd.underlying50 rfl (by kernel_rfl)) rfl ?_
            exact ⟨by first | rfl | (simp [errP_none, errP_some] <;> rfl) | (simp [*, errP_none, errP_some] <;> rfl), sqB2 HB GE159 GE168⟩
          · rw [if_neg c16] at H
            have c16b0 : (t171.toList == a0.toList) = false := beq_eq_false_iff_ne.mpr c16
            have c16b1 : (t171.toList != a0.toList) = true := bne_iff_ne.mpr c16
            simp only [Option.some.injEq, Prod.mk.injEq] at H
            obtain ⟨rfl, rfl, rfl⟩ := H
            go_wp2_with (first | ((with_reducible refine gate_dst (N := 12) rfl ?_); refine box_event ?hg (N := 12) ?hd (cs := #[.int .i64 0, .int .i64 0]) (t := 50) ?hr ?_; (case hd => rfl); (case hg => rfl); (case hr => first | (go_simp; done) | (go_simp; rfl)); intro gb168 hg w25 hbox hb; have BK168 := Aside0.mk (hbox); have GW168 := Aside0.mk ((sqG hg (sqB1 HB GE159))); have GE168 := Aside0.mk ((sqG hg (sqB1 HB GE159))); replace HB := sqS (sqB1 HB GE159) hb; have NB159_168 := Aside0.mk ((by rw [hg]; exact Nat.ne_of_lt (blk_lt (sqK BK159)) : gb159 ≠ gb168)); have NB168_159 := Aside0.mk ((by rw [hg]; exact Nat.ne_of_gt (blk_lt (sqK BK159)) : gb168 ≠ gb159)); replace BK159 := sqT BK159 hb; clear hb hbox hg; have hnb26 := NB168_159.out; have hnc26 := NB159_168.out; have hcz27_0 := sqZ BK168 0 (.int .i64 0); have hcz27_1 := sqZ BK168 1 (.int .i64 0); have hfz27_0 := blk_frozen BK168.out 0; have hfz27_1 := blk_frozen BK168.out 1) | (go_at_call 53; (with_reducible refine (impl_isFraction.calls kj3 t163 x9_3 true _ A13.out).mono ?_); rintro e w28 ⟨rfl, hb⟩; replace BK159 := Aside0.mk (blk_below (g := gb159) (o := .cells #[.int .i64 x160000_3, .int .i64 x160001_3] 50 (0, 0)) (by (with_reducible repeat (first | refine blk_drewN ?_ _ | refine blk_drew ?_ | refine blk_alloc ?_ _)); refine blk_far ?_ NB159_168.out _; (with_reducible repeat (first | refine blk_drewN ?_ _ | refine blk_drew ?_ | refine blk_alloc ?_ _)); refine blk_far ?_ NB159_168.out _; (with_reducible repeat (first | refine blk_drewN ?_ _ | refine blk_drew ?_ | refine blk_alloc ?_ _)); exact BK159.out) hb); replace BK168 := Aside0.mk (blk_below (g := gb168) (o := .cells #[.int .i64 t163, .int .i64 x9_3] 50 (0, 0)) (by (with_reducible repeat (first | refine blk_drewN ?_ _ | refine blk_drew ?_ | refine blk_alloc ?_ _)); refine blk_put (cs := #[.int .i64 t163, .int .i64 0]) ?_ 1 _ rfl; (with_reducible repeat (first | refine blk_drewN ?_ _ | refine blk_drew ?_ | refine blk_alloc ?_ _)); refine blk_put (cs := #[.int .i64 0, .int .i64 0]) ?_ 0 _ rfl; (with_reducible repeat (first | refine blk_drewN ?_ _ | refine blk_drew ?_ | refine blk_alloc ?_ _)); exact BK168.out) hb); replace HB := sqS (sqB2 HB GE159 GE168) hb; (try clear hb); have hcz29_0 := sqZ BK168 0 (.int .i64 t163); have hcz29_1 := sqZ BK168 1 (.int .i64 x9_3); have hfz29_0 := blk_frozen BK168.out 0; have hfz29_1 := blk_frozen BK168.out 1) | (go_at_call 59; (with_reducible refine (impl_fractionText.calls t163 x9_3 t171 _ ?sideG A15.out).mono ?_); (case sideG => exact Glob.below hG (sqB2 HB GE159 GE168)); rintro e w30 ⟨rfl, hb⟩; replace BK159 := sqT BK159 hb; replace BK168 := sqT BK168 hb; replace HB := sqS (sqB2 HB GE159 GE168) hb; (try clear hb); have hcz31_0 := sqZ BK159 0 (.int .i64 x160000_3); have hcz31_1 := sqZ BK159 1 (.int .i64 x160001_3); have hfz31_0 := blk_frozen BK159.out 0; have hfz31_1 := blk_frozen BK159.out 1))
            refine bodyPost_ret (results_ct rfl _ _ gb159 50 #[.int .i64 0, .int .i64 0] (0, 0) _ rfl (by (with_reducible repeat (first | refine blk_drewN ?_ _ | refine blk_drew ?_ | refine blk_alloc ?_ _)); refine blk_put (cs := #[.int .i64 0, .int .i64 x160001_3]) ?_ 1 _ rfl; (with_reducible repeat (first | refine blk_drewN ?_ _ | refine blk_drew ?_ | refine blk_alloc ?_ _)); refine blk_put (cs := #[.int .i64 x160000_3, .int .i64 x160001_3]) ?_ 0 _ rfl; (with_reducible repeat (first | refine blk_drewN ?_ _ | refine blk_drew ?_ | refine blk_alloc ?_ _)); exact BK159.out) Tryd.underlying50 rfl (by kernel_rfl)) rfl ?_
            exact ⟨by first | rfl | (simp [errP_none, errP_some] <;> rfl) | (simp [*, errP_none, errP_some] <;> rfl), sqB2 HB GE159 GE168⟩
        · replace c14 := Bool.eq_false_iff.mpr c14
          subst c14
          have H1 : (some (0, 0, false)) = some (r1, r2, r3) := by rw [if_neg (show ¬ (false = true) by decide)] at H; exact H
          clear H
          have H := H1
          clear H1
          simp only [Option.some.injEq, Prod.mk.injEq] at H
          obtain ⟨rfl, rfl, rfl⟩ := H
          go_wp2_with (first | ((with_reducible refine gate_dst (N := 12) rfl ?_); refine box_event ?hg (N := 12) ?hd (cs := #[.int .i64 0, .int .i64 0]) (t := 50) ?hr ?_; (case hd => rfl); (case hg => rfl); (case hr => first | (go_simp; done) | (go_simp; rfl)); intro gb168 hg w32 hbox hb; have BK168 := Aside0.mk (hbox); have GW168 := Aside0.mk ((sqG hg (sqB1 HB GE159))); have GE168 := Aside0.mk ((sqG hg (sqB1 HB GE159))); replace HB := sqS (sqB1 HB GE159) hb; have NB159_168 := Aside0.mk ((by rw [hg]; exact Nat.ne_of_lt (blk_lt (sqK BK159)) : gb159 ≠ gb168)); have NB168_159 := Aside0.mk ((by rw [hg]; exact Nat.ne_of_gt (blk_lt (sqK BK159)) : gb168 ≠ gb159)); replace BK159 := sqT BK159 hb; clear hb hbox hg; have hnb33 := NB168_159.out; have hnc33 := NB159_168.out; have hcz34_0 := sqZ BK168 0 (.int .i64 0); have hcz34_1 := sqZ BK168 1 (.int .i64 0); have hfz34_0 := blk_frozen BK168.out 0; have hfz34_1 := blk_frozen BK168.out 1) | (go_at_call 53; (with_reducible refine (impl_isFraction.calls kj3 t163 x9_3 false _ A13.out).mono ?_); rintro e w35 ⟨rfl, hb⟩; replace BK159 := Aside0.mk (blk_below (g := gb159) (o := .cells #[.int .i64 x160000_3, .int .i64 x160001_3] 50 (0, 0)) (by (with_reducible repeat (first | refine blk_drewN ?_ _ | refine blk_drew ?_ | refine blk_alloc ?_ _)); refine blk_far ?_ NB159_168.out _; (with_reducible repeat (first | refine blk_drewN ?_ _ | refine blk_drew ?_ | refine blk_alloc ?_ _)); refine blk_far ?_ NB159_168.out _; (with_reducible repeat (first | refine blk_drewN ?_ _ | refine blk_drew ?_ | refine blk_alloc ?_ _)); exact BK159.out) hb); replace BK168 := Aside0.mk (blk_below (g := gb168) (o := .cells #[.int .i64 t163, .int .i64 x9_3] 50 (0, 0)) (by (with_reducible repeat (first | refine blk_drewN ?_ _ | refine blk_drew ?_ | refine blk_alloc ?_ _)); refine blk_put (cs := #[.int .i64 t163, .int .i64 0]) ?_ 1 _ rfl; (with_reducible repeat (first | refine blk_drewN ?_ _ | refine blk_drew ?_ | refine blk_alloc ?_ _)); refine blk_put (cs := #[.int .i64 0, .int .i64 0]) ?_ 0 _ rfl; (with_reducible repeat (first | refine blk_drewN ?_ _ | refine blk_drew ?_ | refine blk_alloc ?_ _)); exact BK168.out) hb); replace HB := sqS (sqB2 HB GE159 GE168) hb; (try clear hb); have hcz36_0 := sqZ BK159 0 (.int .i64 x160000_3); have hcz36_1 := sqZ BK159 1 (.int .i64 x160001_3); have hfz36_0 := blk_frozen BK159.out 0; have hfz36_1 := blk_frozen BK159.out 1))
          refine bodyPost_ret (results_ct rfl _ _ gb159 50 #[.int .i64 0, .int .i64 0] (0, 0) _ rfl (by (with_reducible repeat (first | refine blk_drewN ?_ _ | refine blk_drew ?_ | refine blk_alloc ?_ _)); refine blk_put (cs := #[.int .i64 0, .int .i64 x160001_3]) ?_ 1 _ rfl; (with_reducible repeat (first | refine blk_drewN ?_ _ | refine blk_drew ?_ | refine blk_alloc ?_ _)); refine blk_put (cs := #[.int .i64 x160000_3, .int .i64 x160001_3]) ?_ 0 _ rfl; (with_reducible repeat (first | refine blk_drewN ?_ _ | refine blk_drew ?_ | refine blk_alloc ?_ _)); exact BK159.out) Tryd.underlying50 rfl (by kernel_rfl)) rfl ?_
          exact ⟨by first | rfl | (simp [errP_none, errP_some] <;> rfl) | (simp [*, errP_none, errP_some] <;> rfl), sqB2 HB GE159 GE168⟩
      · obtain ⟨qz_, rfl⟩ := isNone_some hq_t164
        have H1 : (some (0, 0, false)) = some (r1, r2, r3) := by rw [if_neg (show ¬ (some q169).isNone = true by simp)] at H; exact H
        clear H
        have H := H1
        clear H1
        try simp only [errP_none, errP_some]
        simp only [Option.some.injEq, Prod.mk.injEq] at H
        obtain ⟨rfl, rfl, rfl⟩ := H
        go_wp2_with (first | ((with_reducible refine gate_dst (N := 12) rfl ?_); refine box_event ?hg (N := 12) ?hd (cs := #[.int .i64 0, .int .i64 0]) (t := 50) ?hr ?_; (case hd => rfl); (case hg => rfl); (case hr => first | (go_simp; done) | (go_simp; rfl)); intro gb168 hg w37 hbox hb; have BK168 := Aside0.mk (hbox); have GW168 := Aside0.mk ((sqG hg (sqB1 HB GE159))); have GE168 := Aside0.mk ((sqG hg (sqB1 HB GE159))); replace HB := sqS (sqB1 HB GE159) hb; have NB159_168 := Aside0.mk ((by rw [hg]; exact Nat.ne_of_lt (blk_lt (sqK BK159)) : gb159 ≠ gb168)); have NB168_159 := Aside0.mk ((by rw [hg]; exact Nat.ne_of_gt (blk_lt (sqK BK159)) : gb168 ≠ gb159)); replace BK159 := sqT BK159 hb; clear hb hbox hg; have hnb38 := NB168_159.out; have hnc38 := NB159_168.out; have hcz39_0 := sqZ BK168 0 (.int .i64 0); have hcz39_1 := sqZ BK168 1 (.int .i64 0); have hfz39_0 := blk_frozen BK168.out 0; have hfz39_1 := blk_frozen BK168.out 1; have hcz40_0 := sqZ BK159 0 (.int .i64 x160000_3); have hcz40_1 := sqZ BK159 1 (.int .i64 x160001_3); have hfz40_0 := blk_frozen BK159.out 0; have hfz40_1 := blk_frozen BK159.out 1))
        refine bodyPost_ret (results_ct rfl _ _ gb159 50 #[.int .i64 0, .int .i64 0] (0, 0) _ rfl (by (with_reducible repeat (first | refine blk_drewN ?_ _ | refine blk_drew ?_ | refine blk_alloc ?_ _)); refine blk_put (cs := #[.int .i64 0, .int .i64 x160001_3]) ?_ 1 _ rfl; (with_reducible repeat (first | refine blk_drewN ?_ _ | refine blk_drew ?_ | refine blk_alloc ?_ _)); refine blk_put (cs := #[.int .i64 x160000_3, .int .i64 x160001_3]) ?_ 0 _ rfl; (with_reducible repeat (first | refine blk_drewN ?_ _ | refine blk_drew ?_ | refine blk_alloc ?_ _)); refine blk_far ?_ NB159_168.out _; (with_reducible repeat (first | refine blk_drewN ?_ _ | refine blk_drew ?_ | refine blk_alloc ?_ _)); refine blk_far ?_ NB159_168.out _; (with_reducible repeat (first | refine blk_drewN ?_ _ | refine blk_drew ?_ | refine blk_alloc ?_ _)); exact BK159.out) Tryd.underlying50 rfl (by kernel_rfl)) rfl ?_
        exact ⟨by first | rfl | (simp [errP_none, errP_some] <;> rfl) | (simp [*, errP_none, errP_some] <;> rfl), sqB2 HB GE159 GE168⟩

-- given: function 70 (strings_Trim)

/-! ### impl_areMoves: function 60 -/
def impl_areMoves.f (a0 : ByteArray) : Option (Bool) := (strings_Trim.f a0 (⟨#[84, 116, 82]⟩ : ByteArray)).bind fun t172 => (some (t172.toList == ([] : List UInt8)))
set_option maxHeartbeats 8000000 in
set_option maxRecDepth 100000 in
theorem impl_areMoves.calls (a0 : ByteArray) (r : Bool) (w : World) (h : impl_areMoves.f a0 = some r) :
    Calls Tryd.prog 60 #[.string a0] w fun e w' => e = .returned (.bool r) ∧ Below w.heap.size w w' := by
  have HB := Aside0.mk (Below.refl w.heap.size w)
  have H : ((strings_Trim.f a0 (⟨#[84, 116, 82]⟩ : ByteArray)).bind fun t172 => (some (t172.toList == ([] : List UInt8)))) = some r := h
  clear h
  replace H := Option.bind_eq_some_iff.mp H
  obtain ⟨t172, A20, H⟩ := H
  replace H : (some (t172.toList == ([] : List UInt8))) = some r := H
  have A2 := Aside0.mk A20
  clear A20
  obtain rfl := Option.some.inj H
  go_enter Tryd.func60, Tryd.ntmps60
  go_wp2_with (first | ((with_reducible refine gate_callee (f := 70) rfl ?_); refine goesL_ (some 4) rfl rfl Tryd.func70 (by kernel_rfl) rfl #[.string a0, .string (⟨#[84, 116, 82]⟩ : ByteArray)] rfl sqA ?_; (with_reducible refine (strings_Trim.calls a0 (⟨#[84, 116, 82]⟩ : ByteArray) t172 _ A2.out).mono ?_); rintro e w3 ⟨rfl, hb⟩; refine ⟨_, rfl, ?_⟩; replace HB := sqS (sqB HB) hb; (try clear hb)))
  go_ret
  exact ⟨by first | rfl | (simp [errP_none, errP_some] <;> rfl) | (simp [*, errP_none, errP_some] <;> rfl), sqB HB⟩

/-! ### impl_isDance: function 48 -/
def impl_isDance.f (a0 : ByteArray) : Option (Bool) := if (a0.size : Int) ≤ 40 then ((impl_areMoves.f a0).bind fun t173 => (some t173)) else (some false)
set_option maxHeartbeats 8000000 in
set_option maxRecDepth 100000 in
theorem impl_isDance.calls (a0 : ByteArray) (r : Bool) (w : World) (h : impl_isDance.f a0 = some r) :
    Calls Tryd.prog 48 #[.string a0] w fun e w' => e = .returned (.bool r) ∧ Below w.heap.size w w' := by
  have HB := Aside0.mk (Below.refl w.heap.size w)
  have H : (if (a0.size : Int) ≤ 40 then ((impl_areMoves.f a0).bind fun t173 => (some t173)) else (some false)) = some r := h
  clear h
  by_cases c2 : (a0.size : Int) ≤ 40
  · rw [if_pos c2] at H
    have c2b0 : decide ((a0.size : Int) ≤ 40) = true := decide_eq_true c2
    have c2b1 : decide (a0.size ≤ 40) = true := decide_eq_true (by omega)
    clear c2
    replace H := Option.bind_eq_some_iff.mp H
    obtain ⟨t173, A30, H⟩ := H
    replace H : (some t173) = some r := H
    have A3 := Aside0.mk A30
    clear A30
    obtain rfl := Option.some.inj H
    go_enter Tryd.func48, Tryd.ntmps48
    go_wp2_with (first | (go_at_call 60; (with_reducible refine (impl_areMoves.calls a0 t173 _ A3.out).mono ?_); rintro e w4 ⟨rfl, hb⟩; replace HB := sqS (sqB HB) hb; (try clear hb)))
    go_ret
    exact ⟨by first | rfl | (simp [errP_none, errP_some] <;> rfl) | (simp [*, errP_none, errP_some] <;> rfl), sqB HB⟩
  · rw [if_neg c2] at H
    have c2b0 : decide ((a0.size : Int) ≤ 40) = false := decide_eq_false c2
    have c2b1 : decide (a0.size ≤ 40) = false := decide_eq_false (by omega)
    clear c2
    obtain rfl := Option.some.inj H
    go_enter Tryd.func48, Tryd.ntmps48
    go_wp2
    go_ret
    exact ⟨by first | rfl | (simp [errP_none, errP_some] <;> rfl) | (simp [*, errP_none, errP_some] <;> rfl), sqB HB⟩

/-! ### impl_deedText: function 33 -/
mutual
def impl_deedText.j0 : Nat → Bool → Bool → Int → ByteArray → Option (ByteArray)
  | 0, _, _, _, _ => none
  | k + 1, x4, x11, x175000, x175001 => if x11 = true then (if 6 + x175001.size ≤ 9223372036854775807 then (some ((⟨#[100, 97, 110, 99, 101, 32]⟩ : ByteArray) ++ x175001)) else (none)) else (if x175000 = 1 then (impl_deedText.j1 k x4 x175000 x175001) else (impl_deedText.j1 k false x175000 x175001))
def impl_deedText.j1 : Nat → Bool → Int → ByteArray → Option (ByteArray)
  | 0, _, _, _ => none
  | k + 1, x23, x175000, x175001 => if x23 = true then (if 5 + x175001.size ≤ 9223372036854775807 then (some ((⟨#[116, 97, 107, 101, 32]⟩ : ByteArray) ++ x175001)) else (none)) else (if (x175000 == 2 && (x175001.toList == ([] : List UInt8))) = true then (some (⟨#[109, 105, 114, 114, 111, 114]⟩ : ByteArray)) else (if (x175000 == 3 && (x175001.toList == ([] : List UInt8))) = true then (some (⟨#[117, 110, 116, 105, 101]⟩ : ByteArray)) else (if (x175000 == 4 && (x175001.toList == ([] : List UInt8))) = true then (some (⟨#[98, 97, 99, 107]⟩ : ByteArray)) else (some (⟨#[]⟩ : ByteArray)))))
end
def impl_deedText.f (k : Nat) (a0_0 : Int) (a0_1 : ByteArray) : Option (ByteArray) := (impl_ReadFraction.f k a0_1).bind fun bt175 => (if a0_0 = 0 then ((impl_isDance.f a0_1).bind fun t179 => (impl_deedText.j0 k bt175.2.2 t179 a0_0 a0_1)) else (impl_deedText.j0 k bt175.2.2 false a0_0 a0_1))
theorem impl_deedText.mono_l : ∀ k, (∀ y0 y1 y2 y3, LeO (impl_deedText.j0 k y0 y1 y2 y3) (impl_deedText.j0 (k + 1) y0 y1 y2 y3)) ∧ (∀ y0 y1 y2, LeO (impl_deedText.j1 k y0 y1 y2) (impl_deedText.j1 (k + 1) y0 y1 y2))
  | 0 => ⟨fun _ _ _ _ r h => by simp [impl_deedText.j0] at h, fun _ _ _ r h => by simp [impl_deedText.j1] at h⟩
  | k + 1 => by
    obtain ⟨ih0, ih1⟩ := impl_deedText.mono_l k
    refine ⟨?_, ?_⟩
    · intro y0 y1 y2 y3
      unfold impl_deedText.j0
      repeat' first
      | (with_reducible exact ih0 _ _ _ _)
      | (with_reducible exact ih1 _ _ _)
      | (with_reducible exact impl_ReadFraction.mono _ _)
      | (with_reducible exact LeO.refl _)
      | (with_reducible exact LeO.none _)
      | (with_reducible refine LeO.ite ?_ ?_)
      | (with_reducible refine LeO.bind ?_ (fun _ => ?_))
      | exact ih0 _ _ _ _
      | exact ih1 _ _ _
      | exact impl_ReadFraction.mono _ _
      | exact LeO.none _
      | refine LeO.ite ?_ ?_
      | refine LeO.bind ?_ (fun _ => ?_)
    · intro y0 y1 y2
      unfold impl_deedText.j1
      repeat' first
      | (with_reducible exact ih0 _ _ _ _)
      | (with_reducible exact ih1 _ _ _)
      | (with_reducible exact impl_ReadFraction.mono _ _)
      | (with_reducible exact LeO.refl _)
      | (with_reducible exact LeO.none _)
      | (with_reducible refine LeO.ite ?_ ?_)
      | (with_reducible refine LeO.bind ?_ (fun _ => ?_))
      | exact ih0 _ _ _ _
      | exact ih1 _ _ _
      | exact impl_ReadFraction.mono _ _
      | exact LeO.none _
      | refine LeO.ite ?_ ?_
      | refine LeO.bind ?_ (fun _ => ?_)
theorem impl_deedText.mono : ∀ a0 a1 k, LeO (impl_deedText.f k a0 a1) (impl_deedText.f (k + 1) a0 a1) := by
  intro a0 a1 k
  obtain ⟨ih0, ih1⟩ := impl_deedText.mono_l k
  unfold impl_deedText.f
  repeat' first
      | (with_reducible exact ih0 _ _ _ _)
      | (with_reducible exact ih1 _ _ _)
      | (with_reducible exact impl_ReadFraction.mono _ _)
      | (with_reducible exact LeO.refl _)
      | (with_reducible exact LeO.none _)
      | (with_reducible refine LeO.ite ?_ ?_)
      | (with_reducible refine LeO.bind ?_ (fun _ => ?_))
      | exact ih0 _ _ _ _
      | exact ih1 _ _ _
      | exact impl_ReadFraction.mono _ _
      | exact LeO.none _
      | refine LeO.ite ?_ ?_
      | refine LeO.bind ?_ (fun _ => ?_)
set_option maxHeartbeats 8000000 in
set_option maxRecDepth 100000 in
theorem impl_deedText.calls (k : Nat) (a0_0 : Int) (a0_1 : ByteArray) (r : ByteArray) (w : World) (hG : Glob w) (h : impl_deedText.f k a0_0 a0_1 = some r) :
    Calls Tryd.prog 33 #[.agg #[.int .i64 a0_0, .string a0_1]] w fun e w' => e = .returned (.string r) ∧ Below w.heap.size w w' := by
  have hu26 := Tryd.underlying26
  have hu50 := Tryd.underlying50
  have HB := Aside0.mk (Below.refl w.heap.size w)
  have H : ((impl_ReadFraction.f k a0_1).bind fun bt175 => (if a0_0 = 0 then ((impl_isDance.f a0_1).bind fun t179 => (impl_deedText.j0 k bt175.2.2 t179 a0_0 a0_1)) else (impl_deedText.j0 k bt175.2.2 false a0_0 a0_1))) = some r := h
  clear h
  replace H := Option.bind_eq_some_iff.mp H
  obtain ⟨⟨t175, t176, t177⟩, A20, H⟩ := H
  replace H : (if a0_0 = 0 then ((impl_isDance.f a0_1).bind fun t179 => (impl_deedText.j0 k t177 t179 a0_0 a0_1)) else (impl_deedText.j0 k t177 false a0_0 a0_1)) = some r := H
  have A2 := Aside0.mk A20
  clear A20
  have HC3 := Aside0.mk H
  clear H
  go_enter Tryd.func33, Tryd.ntmps33
  go_upto_region 2 with (first | ((with_reducible refine gate_dst (N := 1) rfl ?_); refine box_event ?hg (N := 1) ?hd (cs := #[.int .i64 a0_0, .string a0_1]) (t := 26) ?hr ?_; (case hd => rfl); (case hg => rfl); (case hr => first | (go_simp; done) | (go_simp; rfl)); intro gb174 hg w4 hbox hb; have BK174 := Aside0.mk (hbox); have GW174 := Aside0.mk ((sqG hg (sqB HB))); have GE174 := Aside0.mk ((sqG hg (sqB HB))); replace HB := sqS (sqB HB) hb; clear hb hbox hg; have hcz5_0 := sqZ BK174 0 (.int .i64 a0_0); have hcz5_1 := sqZ BK174 1 (.string a0_1); have hfz5_0 := blk_frozen BK174.out 0; have hfz5_1 := blk_frozen BK174.out 1) | ((with_reducible refine gate_callee (f := 47) rfl ?_); refine goesL_ (some 8) rfl rfl Tryd.func47 (by kernel_rfl) rfl #[.string a0_1] rfl sqA ?_; (with_reducible refine (impl_ReadFraction.calls k a0_1 t175 t176 t177 _ ?sideG A2.out).mono ?_); (case sideG => exact Glob.below hG (sqB1 HB GE174)); rintro e w6 ⟨rfl, hb⟩; refine ⟨_, rfl, ?_⟩; replace BK174 := sqT BK174 hb; replace HB := sqS (sqB1 HB GE174) hb; (try clear hb)) | ((with_reducible refine gate_dst (N := 3) rfl ?_); refine box_event ?hg (N := 3) ?hd (cs := #[.int .i64 0, .int .i64 0]) (t := 50) ?hr ?_; (case hd => rfl); (case hg => rfl); (case hr => first | (go_simp; done) | (go_simp; rfl)); intro gb178 hg w7 hbox hb; have BK178 := Aside0.mk (hbox); have GW178 := Aside0.mk ((sqG hg (sqB1 HB GE174))); have GE178 := Aside0.mk ((sqG hg (sqB1 HB GE174))); replace HB := sqS (sqB1 HB GE174) hb; have NB174_178 := Aside0.mk ((by rw [hg]; exact Nat.ne_of_lt (blk_lt (sqK BK174)) : gb174 ≠ gb178)); have NB178_174 := Aside0.mk ((by rw [hg]; exact Nat.ne_of_gt (blk_lt (sqK BK174)) : gb178 ≠ gb174)); replace BK174 := sqT BK174 hb; clear hb hbox hg; have hnb8 := NB178_174.out; have hnc8 := NB174_178.out; have hcz9_0 := sqZ BK178 0 (.int .i64 0); have hcz9_1 := sqZ BK178 1 (.int .i64 0); have hfz9_0 := blk_frozen BK178.out 0; have hfz9_1 := blk_frozen BK178.out 1))
  (try simp only [Act.put, List.setIfInBounds_toArray, List.set_cons_zero, List.set_cons_succ])
  go_cut [11] (fun v11 wc => ∃ (kq : Nat) (x11_2 : Bool), v11 = .bool x11_2 ∧ Aside0 (impl_deedText.j0 kq t177 x11_2 a0_0 a0_1 = some r) ∧ Aside0 (kq ≤ k) ∧ Aside0 (wc.heap[gb174]? = some (.cells #[.int .i64 a0_0, .string a0_1] 26 (0, 0))) ∧ Aside0 (wc.heap[gb178]? = some (.cells #[.int .i64 t175, .int .i64 t176] 50 (0, 0))) ∧ Aside0 (Below w.heap.size w wc))
  case first =>
    have H := HC3.out
    clear HC3
    by_cases c10 : a0_0 = 0
    · rw [if_pos c10] at H
      have c10b0 : (a0_0 == 0) = true := beq_iff_eq.mpr c10
      have c10b1 : (a0_0 != 0) = false := bne_eq_false_iff_eq.mpr c10
      clear c10
      (first | rw [c10b0] | (simp only [i64_w, i32_w]; rw [c10b0]) | skip)
      replace H := Option.bind_eq_some_iff.mp H
      obtain ⟨t179, A110, H⟩ := H
      replace H : (impl_deedText.j0 k t177 t179 a0_0 a0_1) = some r := H
      have A11 := Aside0.mk A110
      clear A110
      have H' := Aside0.mk H
      clear H
      have hnb12 := NB174_178.out
      have hnc12 := NB178_174.out
      have hcz13_0 := sqZ BK174 0 (.int .i64 a0_0)
      have hcz13_1 := sqZ BK174 1 (.string a0_1)
      have hfz13_0 := blk_frozen BK174.out 0
      have hfz13_1 := blk_frozen BK174.out 1
      go_wp2_with (first | (go_at_call 48; (with_reducible refine (impl_isDance.calls a0_1 t179 _ A11.out).mono ?_); rintro e w14 ⟨rfl, hb⟩; replace BK174 := Aside0.mk (blk_below (g := gb174) (o := .cells #[.int .i64 a0_0, .string a0_1] 26 (0, 0)) (by (with_reducible repeat (first | refine blk_drewN ?_ _ | refine blk_drew ?_ | refine blk_alloc ?_ _)); refine blk_far ?_ NB174_178.out _; (with_reducible repeat (first | refine blk_drewN ?_ _ | refine blk_drew ?_ | refine blk_alloc ?_ _)); refine blk_far ?_ NB174_178.out _; (with_reducible repeat (first | refine blk_drewN ?_ _ | refine blk_drew ?_ | refine blk_alloc ?_ _)); exact BK174.out) hb); replace BK178 := Aside0.mk (blk_below (g := gb178) (o := .cells #[.int .i64 t175, .int .i64 t176] 50 (0, 0)) (by (with_reducible repeat (first | refine blk_drewN ?_ _ | refine blk_drew ?_ | refine blk_alloc ?_ _)); refine blk_put (cs := #[.int .i64 t175, .int .i64 0]) ?_ 1 _ rfl; (with_reducible repeat (first | refine blk_drewN ?_ _ | refine blk_drew ?_ | refine blk_alloc ?_ _)); refine blk_put (cs := #[.int .i64 0, .int .i64 0]) ?_ 0 _ rfl; (with_reducible repeat (first | refine blk_drewN ?_ _ | refine blk_drew ?_ | refine blk_alloc ?_ _)); exact BK178.out) hb); replace HB := sqS (sqB2 HB GE174 GE178) hb; (try clear hb)))
      go_meet
      case rel => exact ⟨_, (t179), (by first | rfl | (simp; done) | (simp [*]; done)), H', ⟨by first | omega | exact Nat.le_refl _⟩, ⟨sqK BK174⟩, ⟨sqK BK178⟩, ⟨sqB2 HB GE174 GE178⟩⟩
    · rw [if_neg c10] at H
      have c10b0 : (a0_0 == 0) = false := beq_eq_false_iff_ne.mpr c10
      have c10b1 : (a0_0 != 0) = true := bne_iff_ne.mpr c10
      (first | rw [c10b0] | (simp only [i64_w, i32_w]; rw [c10b0]) | skip)
      have H' := Aside0.mk H
      clear H
      have hnb15 := NB174_178.out
      have hnc15 := NB178_174.out
      have hcz16_0 := sqZ BK174 0 (.int .i64 a0_0)
      have hcz16_1 := sqZ BK174 1 (.string a0_1)
      have hfz16_0 := blk_frozen BK174.out 0
      have hfz16_1 := blk_frozen BK174.out 1
      go_wp2
      go_meet
      case rel => exact ⟨_, (false), (by first | rfl | (simp; done) | (simp [*]; done)), H', ⟨by first | omega | exact Nat.le_refl _⟩, ⟨by (with_reducible repeat (first | refine blk_drewN ?_ _ | refine blk_drew ?_ | refine blk_alloc ?_ _)); refine blk_far ?_ NB174_178.out _; (with_reducible repeat (first | refine blk_drewN ?_ _ | refine blk_drew ?_ | refine blk_alloc ?_ _)); refine blk_far ?_ NB174_178.out _; (with_reducible repeat (first | refine blk_drewN ?_ _ | refine blk_drew ?_ | refine blk_alloc ?_ _)); exact BK174.out⟩, ⟨by (with_reducible repeat (first | refine blk_drewN ?_ _ | refine blk_drew ?_ | refine blk_alloc ?_ _)); refine blk_put (cs := #[.int .i64 t175, .int .i64 0]) ?_ 1 _ rfl; (with_reducible repeat (first | refine blk_drewN ?_ _ | refine blk_drew ?_ | refine blk_alloc ?_ _)); refine blk_put (cs := #[.int .i64 0, .int .i64 0]) ?_ 0 _ rfl; (with_reducible repeat (first | refine blk_drewN ?_ _ | refine blk_drew ?_ | refine blk_alloc ?_ _)); exact BK178.out⟩, ⟨sqB2 HB GE174 GE178⟩⟩
  case rest =>
    clear HC3
    try clear c1
    try clear p2
    try clear c3
    try clear c4
    try clear c8
    try clear c10
    try clear c10b0
    try clear c10b1
    try clear c12
    try clear c15
    try clear hcz13_0
    try clear hcz13_1
    try clear hcz16_0
    try clear hcz16_1
    try clear hcz5_0
    try clear hcz5_1
    try clear hcz9_0
    try clear hcz9_1
    try clear hfz13_0
    try clear hfz13_1
    try clear hfz16_0
    try clear hfz16_1
    try clear hfz5_0
    try clear hfz5_1
    try clear hfz9_0
    try clear hfz9_1
    obtain ⟨kq, x11_2, rfl, HA, HJ2, BK174, BK178, HB⟩ := hcut
    cases kq with
    | zero => exact absurd HA.out (by simp [impl_deedText.j0])
    | succ kj2 =>
      have H := HA.out
      clear HA
      simp only [impl_deedText.j0] at H
      by_cases c17 : x11_2 = true
      · subst c17
        have H1 : (if 6 + a0_1.size ≤ 9223372036854775807 then (some ((⟨#[100, 97, 110, 99, 101, 32]⟩ : ByteArray) ++ a0_1)) else (none)) = some r := by rw [if_pos rfl] at H; exact H
        clear H
        have H := H1
        clear H1
        by_cases c18 : 6 + a0_1.size ≤ 9223372036854775807
        · rw [if_pos c18] at H
          have c18b0 := eq_true c18
          have c18b1 : decide (6 + a0_1.size ≤ 9223372036854775807) = true := decide_eq_true c18
          try have c18b2 : (9223372036854775807 < 6 + a0_1.size) = False := eq_false (Nat.not_lt.2 c18)
          obtain rfl := Option.some.inj H
          have hnb19 := NB174_178.out
          have hnc19 := NB178_174.out
          have hcz20_0 := sqZ BK174 0 (.int .i64 a0_0)
          have hcz20_1 := sqZ BK174 1 (.string a0_1)
          have hfz20_0 := blk_frozen BK174.out 0
          have hfz20_1 := blk_frozen BK174.out 1
          go_wp2
          go_ret
          exact ⟨by first | rfl | (simp [errP_none, errP_some] <;> rfl) | (simp [*, errP_none, errP_some] <;> rfl), sqB2 HB GE174 GE178⟩
        · rw [if_neg c18] at H
          exact absurd H (by simp)
      · replace c17 := Bool.eq_false_iff.mpr c17
        subst c17
        have H1 : (if a0_0 = 1 then (impl_deedText.j1 kj2 t177 a0_0 a0_1) else (impl_deedText.j1 kj2 false a0_0 a0_1)) = some r := by rw [if_neg (show ¬ (false = true) by decide)] at H; exact H
        clear H
        have H := H1
        clear H1
        have HC21 := Aside0.mk H
        clear H
        go_upto_region 4 with (fail)
        go_cut [23] (fun v23 wc => ∃ (kq : Nat) (x23_20 : Bool), v23 = .bool x23_20 ∧ Aside0 (impl_deedText.j1 kq x23_20 a0_0 a0_1 = some r) ∧ Aside0 (kq ≤ kj2) ∧ Aside0 (wc.heap[gb174]? = some (.cells #[.int .i64 a0_0, .string a0_1] 26 (0, 0))) ∧ Aside0 (wc.heap[gb178]? = some (.cells #[.int .i64 t175, .int .i64 t176] 50 (0, 0))) ∧ Aside0 (Below w.heap.size w wc))
        case first =>
          have H := HC21.out
          clear HC21
          by_cases c22 : a0_0 = 1
          · rw [if_pos c22] at H
            have c22b0 : (a0_0 == 1) = true := beq_iff_eq.mpr c22
            have c22b1 : (a0_0 != 1) = false := bne_eq_false_iff_eq.mpr c22
            clear c22
            (first | rw [c22b0] | (simp only [i64_w, i32_w]; rw [c22b0]) | skip)
            have H' := Aside0.mk H
            clear H
            have hnb23 := NB174_178.out
            have hnc23 := NB178_174.out
            have hcz24_0 := sqZ BK174 0 (.int .i64 a0_0)
            have hcz24_1 := sqZ BK174 1 (.string a0_1)
            have hfz24_0 := blk_frozen BK174.out 0
            have hfz24_1 := blk_frozen BK174.out 1
            go_wp2
            go_meet
            case rel => exact ⟨_, (t177), (by first | rfl | (simp; done) | (simp [*]; done)), H', ⟨by have := HJ2.out; first | omega | exact Nat.le_refl _⟩, ⟨sqK BK174⟩, ⟨sqK BK178⟩, ⟨sqB2 HB GE174 GE178⟩⟩
          · rw [if_neg c22] at H
            have c22b0 : (a0_0 == 1) = false := beq_eq_false_iff_ne.mpr c22
            have c22b1 : (a0_0 != 1) = true := bne_iff_ne.mpr c22
            (first | rw [c22b0] | (simp only [i64_w, i32_w]; rw [c22b0]) | skip)
            have H' := Aside0.mk H
            clear H
            have hnb25 := NB174_178.out
            have hnc25 := NB178_174.out
            have hcz26_0 := sqZ BK174 0 (.int .i64 a0_0)
            have hcz26_1 := sqZ BK174 1 (.string a0_1)
            have hfz26_0 := blk_frozen BK174.out 0
            have hfz26_1 := blk_frozen BK174.out 1
            go_wp2
            go_meet
            case rel => exact ⟨_, (false), (by first | rfl | (simp; done) | (simp [*]; done)), H', ⟨by have := HJ2.out; first | omega | exact Nat.le_refl _⟩, ⟨sqK BK174⟩, ⟨sqK BK178⟩, ⟨sqB2 HB GE174 GE178⟩⟩
        case rest =>
          clear HC21
          try clear c1
          try clear c2
          try clear p2
          try clear c3
          try clear c4
          try clear c8
          try clear c10
          try clear c10b0
          try clear c10b1
          try clear c12
          try clear c15
          try clear c17
          try clear c18
          try clear c18b0
          try clear c18b1
          try clear c18b2
          try clear c19
          try clear c22
          try clear c22b0
          try clear c22b1
          try clear c23
          try clear c25
          try clear hcz13_0
          try clear hcz13_1
          try clear hcz16_0
          try clear hcz16_1
          try clear hcz20_0
          try clear hcz20_1
          try clear hcz24_0
          try clear hcz24_1
          try clear hcz26_0
          try clear hcz26_1
          try clear hcz5_0
          try clear hcz5_1
          try clear hcz9_0
          try clear hcz9_1
          try clear hfz13_0
          try clear hfz13_1
          try clear hfz16_0
          try clear hfz16_1
          try clear hfz20_0
          try clear hfz20_1
          try clear hfz24_0
          try clear hfz24_1
          try clear hfz26_0
          try clear hfz26_1
          try clear hfz5_0
          try clear hfz5_1
          try clear hfz9_0
          try clear hfz9_1
          try clear p2
          obtain ⟨kq, x23_20, rfl, HA, HJ20, BK174, BK178, HB⟩ := hcut
          cases kq with
          | zero => exact absurd HA.out (by simp [impl_deedText.j1])
          | succ kj20 =>
            have H := HA.out
            clear HA
            simp only [impl_deedText.j1] at H
            by_cases c27 : x23_20 = true
            · subst c27
              have H1 : (if 5 + a0_1.size ≤ 9223372036854775807 then (some ((⟨#[116, 97, 107, 101, 32]⟩ : ByteArray) ++ a0_1)) else (none)) = some r := by rw [if_pos rfl] at H; exact H
              clear H
              have H := H1
              clear H1
              by_cases c28 : 5 + a0_1.size ≤ 9223372036854775807
              · rw [if_pos c28] at H
                have c28b0 := eq_true c28
                have c28b1 : decide (5 + a0_1.size ≤ 9223372036854775807) = true := decide_eq_true c28
                try have c28b2 : (9223372036854775807 < 5 + a0_1.size) = False := eq_false (Nat.not_lt.2 c28)
                obtain rfl := Option.some.inj H
                have hnb29 := NB174_178.out
                have hnc29 := NB178_174.out
                have hcz30_0 := sqZ BK174 0 (.int .i64 a0_0)
                have hcz30_1 := sqZ BK174 1 (.string a0_1)
                have hfz30_0 := blk_frozen BK174.out 0
                have hfz30_1 := blk_frozen BK174.out 1
                go_wp2
                go_ret
                exact ⟨by first | rfl | (simp [errP_none, errP_some] <;> rfl) | (simp [*, errP_none, errP_some] <;> rfl), sqB2 HB GE174 GE178⟩
              · rw [if_neg c28] at H
                exact absurd H (by simp)
            · replace c27 := Bool.eq_false_iff.mpr c27
              subst c27
              have H1 : (if (a0_0 == 2 && (a0_1.toList == ([] : List UInt8))) = true then (some (⟨#[109, 105, 114, 114, 111, 114]⟩ : ByteArray)) else (if (a0_0 == 3 && (a0_1.toList == ([] : List UInt8))) = true then (some (⟨#[117, 110, 116, 105, 101]⟩ : ByteArray)) else (if (a0_0 == 4 && (a0_1.toList == ([] : List UInt8))) = true then (some (⟨#[98, 97, 99, 107]⟩ : ByteArray)) else (some (⟨#[]⟩ : ByteArray))))) = some r := by rw [if_neg (show ¬ (false = true) by decide)] at H; exact H
              clear H
              have H := H1
              clear H1
              by_cases c31 : (a0_0 == 2 && (a0_1.toList == ([] : List UInt8))) = true
              · rw [if_pos c31] at H
                have c31b0 : (a0_0 == 2 && (a0_1.toList == ([] : List UInt8))) = true := c31
                try have c31b8 : (a0_0 == 2 && a0_1.toList.isEmpty) = true := by (have h_ := c31b0; (repeat rw [show ∀ z : List UInt8, (z == ([] : List UInt8)) = z.isEmpty from fun z => by cases z <;> rfl] at h_); exact h_)
                (try (have c31b1 : decide (a0_0 = 2 && (a0_1.toList == ([] : List UInt8))) = true := by simpa using c31))
                (try (have c31b2 : (a0_0 == 2 && (a0_1.toList == ([] : List UInt8))) = true := by simpa using c31))
                clear c31
                obtain rfl := Option.some.inj H
                have hnb32 := NB174_178.out
                have hnc32 := NB178_174.out
                have hcz33_0 := sqZ BK174 0 (.int .i64 a0_0)
                have hcz33_1 := sqZ BK174 1 (.string a0_1)
                have hfz33_0 := blk_frozen BK174.out 0
                have hfz33_1 := blk_frozen BK174.out 1
                go_wp2
                go_ret
                exact ⟨by first | rfl | (simp [errP_none, errP_some] <;> rfl) | (simp [*, errP_none, errP_some] <;> rfl), sqB2 HB GE174 GE178⟩
              · rw [if_neg c31] at H
                have c31b0 : (a0_0 == 2 && (a0_1.toList == ([] : List UInt8))) = false := by simpa using c31
                try have c31b8 : (a0_0 == 2 && a0_1.toList.isEmpty) = false := by (have h_ := c31b0; (repeat rw [show ∀ z : List UInt8, (z == ([] : List UInt8)) = z.isEmpty from fun z => by cases z <;> rfl] at h_); exact h_)
                (try (have c31b1 : decide (a0_0 = 2 && (a0_1.toList == ([] : List UInt8))) = false := by simpa using c31))
                (try (have c31b2 : (a0_0 == 2 && (a0_1.toList == ([] : List UInt8))) = false := by simpa using c31))
                (try (have c31b3 : ¬ (a0_0 = 2 && (a0_1.toList == ([] : List UInt8))) := by simpa using c31))
                clear c31
                by_cases c34 : (a0_0 == 3 && (a0_1.toList == ([] : List UInt8))) = true
                · rw [if_pos c34] at H
                  have c34b0 : (a0_0 == 3 && (a0_1.toList == ([] : List UInt8))) = true := c34
                  try have c34b8 : (a0_0 == 3 && a0_1.toList.isEmpty) = true := by (have h_ := c34b0; (repeat rw [show ∀ z : List UInt8, (z == ([] : List UInt8)) = z.isEmpty from fun z => by cases z <;> rfl] at h_); exact h_)
                  (try (have c34b1 : decide (a0_0 = 3 && (a0_1.toList == ([] : List UInt8))) = true := by simpa using c34))
                  (try (have c34b2 : (a0_0 == 3 && (a0_1.toList == ([] : List UInt8))) = true := by simpa using c34))
                  clear c34
                  obtain rfl := Option.some.inj H
                  have hnb35 := NB174_178.out
                  have hnc35 := NB178_174.out
                  have hcz36_0 := sqZ BK174 0 (.int .i64 a0_0)
                  have hcz36_1 := sqZ BK174 1 (.string a0_1)
                  have hfz36_0 := blk_frozen BK174.out 0
                  have hfz36_1 := blk_frozen BK174.out 1
                  go_wp2
                  go_ret
                  exact ⟨by first | rfl | (simp [errP_none, errP_some] <;> rfl) | (simp [*, errP_none, errP_some] <;> rfl), sqB2 HB GE174 GE178⟩
                · rw [if_neg c34] at H
                  have c34b0 : (a0_0 == 3 && (a0_1.toList == ([] : List UInt8))) = false := by simpa using c34
                  try have c34b8 : (a0_0 == 3 && a0_1.toList.isEmpty) = false := by (have h_ := c34b0; (repeat rw [show ∀ z : List UInt8, (z == ([] : List UInt8)) = z.isEmpty from fun z => by cases z <;> rfl] at h_); exact h_)
                  (try (have c34b1 : decide (a0_0 = 3 && (a0_1.toList == ([] : List UInt8))) = false := by simpa using c34))
                  (try (have c34b2 : (a0_0 == 3 && (a0_1.toList == ([] : List UInt8))) = false := by simpa using c34))
                  (try (have c34b3 : ¬ (a0_0 = 3 && (a0_1.toList == ([] : List UInt8))) := by simpa using c34))
                  clear c34
                  by_cases c37 : (a0_0 == 4 && (a0_1.toList == ([] : List UInt8))) = true
                  · rw [if_pos c37] at H
                    have c37b0 : (a0_0 == 4 && (a0_1.toList == ([] : List UInt8))) = true := c37
                    try have c37b8 : (a0_0 == 4 && a0_1.toList.isEmpty) = true := by (have h_ := c37b0; (repeat rw [show ∀ z : List UInt8, (z == ([] : List UInt8)) = z.isEmpty from fun z => by cases z <;> rfl] at h_); exact h_)
                    (try (have c37b1 : decide (a0_0 = 4 && (a0_1.toList == ([] : List UInt8))) = true := by simpa using c37))
                    (try (have c37b2 : (a0_0 == 4 && (a0_1.toList == ([] : List UInt8))) = true := by simpa using c37))
                    clear c37
                    obtain rfl := Option.some.inj H
                    have hnb38 := NB174_178.out
                    have hnc38 := NB178_174.out
                    have hcz39_0 := sqZ BK174 0 (.int .i64 a0_0)
                    have hcz39_1 := sqZ BK174 1 (.string a0_1)
                    have hfz39_0 := blk_frozen BK174.out 0
                    have hfz39_1 := blk_frozen BK174.out 1
                    go_wp2
                    go_ret
                    exact ⟨by first | rfl | (simp [errP_none, errP_some] <;> rfl) | (simp [*, errP_none, errP_some] <;> rfl), sqB2 HB GE174 GE178⟩
                  · rw [if_neg c37] at H
                    have c37b0 : (a0_0 == 4 && (a0_1.toList == ([] : List UInt8))) = false := by simpa using c37
                    try have c37b8 : (a0_0 == 4 && a0_1.toList.isEmpty) = false := by (have h_ := c37b0; (repeat rw [show ∀ z : List UInt8, (z == ([] : List UInt8)) = z.isEmpty from fun z => by cases z <;> rfl] at h_); exact h_)
                    (try (have c37b1 : decide (a0_0 = 4 && (a0_1.toList == ([] : List UInt8))) = false := by simpa using c37))
                    (try (have c37b2 : (a0_0 == 4 && (a0_1.toList == ([] : List UInt8))) = false := by simpa using c37))
                    (try (have c37b3 : ¬ (a0_0 = 4 && (a0_1.toList == ([] : List UInt8))) := by simpa using c37))
                    clear c37
                    obtain rfl := Option.some.inj H
                    have hnb40 := NB174_178.out
                    have hnc40 := NB178_174.out
                    have hcz41_0 := sqZ BK174 0 (.int .i64 a0_0)
                    have hcz41_1 := sqZ BK174 1 (.string a0_1)
                    have hfz41_0 := blk_frozen BK174.out 0
                    have hfz41_1 := blk_frozen BK174.out 1
                    go_wp2
                    go_ret
                    exact ⟨by first | rfl | (simp [errP_none, errP_some] <;> rfl) | (simp [*, errP_none, errP_some] <;> rfl), sqB2 HB GE174 GE178⟩

/-! ### impl_DeedText: function 13 -/
def impl_DeedText.f (k : Nat) (a0_0 : Int) (a0_1 : ByteArray) : Option (ByteArray) := (impl_deedText.f k a0_0 a0_1).bind fun t181 => (some t181)
theorem impl_DeedText.mono : ∀ a0 a1 k, LeO (impl_DeedText.f k a0 a1) (impl_DeedText.f (k + 1) a0 a1) := by
  intro a0 a1 k
  unfold impl_DeedText.f
  repeat' first
      | (with_reducible exact impl_deedText.mono _ _ _)
      | (with_reducible exact LeO.refl _)
      | (with_reducible exact LeO.none _)
      | (with_reducible refine LeO.ite ?_ ?_)
      | (with_reducible refine LeO.bind ?_ (fun _ => ?_))
      | exact impl_deedText.mono _ _ _
      | exact LeO.none _
      | refine LeO.ite ?_ ?_
      | refine LeO.bind ?_ (fun _ => ?_)
set_option maxHeartbeats 8000000 in
set_option maxRecDepth 100000 in
theorem impl_DeedText.calls (k : Nat) (a0_0 : Int) (a0_1 : ByteArray) (r : ByteArray) (w : World) (hG : Glob w) (h : impl_DeedText.f k a0_0 a0_1 = some r) :
    Calls Tryd.prog 13 #[.agg #[.int .i64 a0_0, .string a0_1]] w fun e w' => e = .returned (.string r) ∧ Below w.heap.size w w' := by
  have hu26 := Tryd.underlying26
  have HB := Aside0.mk (Below.refl w.heap.size w)
  have H : ((impl_deedText.f k a0_0 a0_1).bind fun t181 => (some t181)) = some r := h
  clear h
  replace H := Option.bind_eq_some_iff.mp H
  obtain ⟨t181, A20, H⟩ := H
  replace H : (some t181) = some r := H
  have A2 := Aside0.mk A20
  clear A20
  obtain rfl := Option.some.inj H
  go_enter Tryd.func13, Tryd.ntmps13
  go_wp2_with (first | ((with_reducible refine gate_dst (N := 1) rfl ?_); refine box_event ?hg (N := 1) ?hd (cs := #[.int .i64 a0_0, .string a0_1]) (t := 26) ?hr ?_; (case hd => rfl); (case hg => rfl); (case hr => first | (go_simp; done) | (go_simp; rfl)); intro gb180 hg w3 hbox hb; have BK180 := Aside0.mk (hbox); have GW180 := Aside0.mk ((sqG hg (sqB HB))); have GE180 := Aside0.mk ((sqG hg (sqB HB))); replace HB := sqS (sqB HB) hb; clear hb hbox hg; have hcz4_0 := sqZ BK180 0 (.int .i64 a0_0); have hcz4_1 := sqZ BK180 1 (.string a0_1); have hfz4_0 := blk_frozen BK180.out 0; have hfz4_1 := blk_frozen BK180.out 1) | ((with_reducible refine gate_callee (f := 33) rfl ?_); refine goesL_ (some 4) rfl rfl Tryd.func33 (by kernel_rfl) rfl #[.agg #[.int .i64 a0_0, .string a0_1]] rfl sqA ?_; (with_reducible refine (impl_deedText.calls k a0_0 a0_1 t181 _ ?sideG A2.out).mono ?_); (case sideG => exact Glob.below hG (sqB1 HB GE180)); rintro e w5 ⟨rfl, hb⟩; refine ⟨_, rfl, ?_⟩; replace BK180 := sqT BK180 hb; replace HB := sqS (sqB1 HB GE180) hb; (try clear hb)))
  go_ret
  exact ⟨by first | rfl | (simp [errP_none, errP_some] <;> rfl) | (simp [*, errP_none, errP_some] <;> rfl), sqB1 HB GE180⟩

end Go.Proofs.YtnojjblkmepblaaDoor.PFnDeedText
