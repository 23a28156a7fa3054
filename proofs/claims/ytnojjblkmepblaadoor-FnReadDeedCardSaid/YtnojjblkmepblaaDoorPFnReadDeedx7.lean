/- Lean functions of the Go functions that the law FnReadDeed reaches, each with its contract: made by a program of this session. -/
import Derived.Test.YtnojjblkmepblaaDoorPFnReadDeedx0
import Derived.Test.YtnojjblkmepblaaDoorPFnReadDeedx2
import Derived.Test.YtnojjblkmepblaaDoorPFnReadDeedx3
import Derived.Test.YtnojjblkmepblaaDoorPFnReadDeedx6
namespace Go.Proofs.YtnojjblkmepblaaDoor.PFnReadDeed
open Go.RowKit Go.Proofs.YtnojjblkmepblaaDoorW.PrintWords Go.Proofs.YtnojjblkmepblaaDoorW.PrintLast Go.Proofs.YtnojjblkmepblaaDoorW.PrintMore Go.Proofs.YtnojjblkmepblaaDoor.Lib
attribute [local go_sem] max2_int min2_int max_two min_two max_three min_three max_four min_four   -- for this text's walks alone
set_option linter.unusedVariables false
set_option linter.unusedSimpArgs false

/-! ### spec_ReadDeed: function 14 -/
mutual
def spec_ReadDeed.j0 : Nat → ByteArray → List (S26) → Option (Int × ByteArray × Bool)
  | 0, _, _ => none
  | k + 1, x0, x5 => spec_ReadDeed.l0 k x0 x5 0
def spec_ReadDeed.l0 : Nat → ByteArray → List (S26) → Int → Option (Int × ByteArray × Bool)
  | 0, _, _, _ => none
  | k + 1, x0, x5, x6 => if x6 < (x5.length : Int) then (if x0.toList = ([] : List UInt8) then (spec_ReadDeed.l0 k x0 x5 (wrap64 (x6 + 1))) else (if 0 ≤ x6 then ((spec_DeedText.f k ((rd_T26 x5 x6).f0) ((rd_T26 x5 x6).f1)).bind fun t198 => (if t198.toList = x0.toList then (some ((rd_T26 x5 x6).f0, (rd_T26 x5 x6).f1, true)) else (spec_ReadDeed.l0 k x0 x5 (wrap64 (x6 + 1))))) else (none))) else (some (0, (⟨#[]⟩ : ByteArray), false))
end
def spec_ReadDeed.f (k : Nat) (a0 : ByteArray) : Option (Int × ByteArray × Bool) := (spec_l1Cut.f k a0 32).bind fun t183 => ((some (([(⟨2, (⟨#[]⟩ : ByteArray)⟩ : S26), (⟨3, (⟨#[]⟩ : ByteArray)⟩ : S26), (⟨4, (⟨#[]⟩ : ByteArray)⟩ : S26)] : List (S26)) : List (S26))).bind fun y186 => (if (t183.length : Int) = 2 then (if 1 < (t183.length : Int) then ((some (([(⟨0, rdOf ByteArray.empty t183 1⟩ : S26), (⟨1, rdOf ByteArray.empty t183 1⟩ : S26)] : List (S26)) : List (S26))).bind fun y191 => (if y186.length + y191.length < 5864062014805 then (spec_ReadDeed.j0 k a0 (y186 ++ y191)) else (none))) else (none)) else (spec_ReadDeed.j0 k a0 y186)))
theorem spec_ReadDeed.mono_l : ∀ k, (∀ y0 y1, LeO (spec_ReadDeed.j0 k y0 y1) (spec_ReadDeed.j0 (k + 1) y0 y1)) ∧ (∀ y0 y1 y2, LeO (spec_ReadDeed.l0 k y0 y1 y2) (spec_ReadDeed.l0 (k + 1) y0 y1 y2))
  | 0 => ⟨fun _ _ r h => by simp [spec_ReadDeed.j0] at h, fun _ _ _ r h => by simp [spec_ReadDeed.l0] at h⟩
  | k + 1 => by
    obtain ⟨ih0, ih1⟩ := spec_ReadDeed.mono_l k
    refine ⟨?_, ?_⟩
    · intro y0 y1
      unfold spec_ReadDeed.j0
      repeat' first
      | (with_reducible exact ih0 _ _)
      | (with_reducible exact ih1 _ _ _)
      | (with_reducible exact spec_DeedText.mono _ _ _)
      | (with_reducible exact spec_l1Cut.mono _ _ _)
      | (with_reducible exact LeO.refl _)
      | (with_reducible exact LeO.none _)
      | (with_reducible refine LeO.ite ?_ ?_)
      | (with_reducible refine LeO.bind ?_ (fun _ => ?_))
      | exact ih0 _ _
      | exact ih1 _ _ _
      | exact spec_DeedText.mono _ _ _
      | exact spec_l1Cut.mono _ _ _
      | exact LeO.none _
      | refine LeO.ite ?_ ?_
      | refine LeO.bind ?_ (fun _ => ?_)
    · intro y0 y1 y2
      unfold spec_ReadDeed.l0
      repeat' first
      | (with_reducible exact ih0 _ _)
      | (with_reducible exact ih1 _ _ _)
      | (with_reducible exact spec_DeedText.mono _ _ _)
      | (with_reducible exact spec_l1Cut.mono _ _ _)
      | (with_reducible exact LeO.refl _)
      | (with_reducible exact LeO.none _)
      | (with_reducible refine LeO.ite ?_ ?_)
      | (with_reducible refine LeO.bind ?_ (fun _ => ?_))
      | exact ih0 _ _
      | exact ih1 _ _ _
      | exact spec_DeedText.mono _ _ _
      | exact spec_l1Cut.mono _ _ _
      | exact LeO.none _
      | refine LeO.ite ?_ ?_
      | refine LeO.bind ?_ (fun _ => ?_)
theorem spec_ReadDeed.mono : ∀ a0 k, LeO (spec_ReadDeed.f k a0) (spec_ReadDeed.f (k + 1) a0) := by
  intro a0 k
  obtain ⟨ih0, ih1⟩ := spec_ReadDeed.mono_l k
  unfold spec_ReadDeed.f
  repeat' first
      | (with_reducible exact ih0 _ _)
      | (with_reducible exact ih1 _ _ _)
      | (with_reducible exact spec_DeedText.mono _ _ _)
      | (with_reducible exact spec_l1Cut.mono _ _ _)
      | (with_reducible exact LeO.refl _)
      | (with_reducible exact LeO.none _)
      | (with_reducible refine LeO.ite ?_ ?_)
      | (with_reducible refine LeO.bind ?_ (fun _ => ?_))
      | exact ih0 _ _
      | exact ih1 _ _ _
      | exact spec_DeedText.mono _ _ _
      | exact spec_l1Cut.mono _ _ _
      | exact LeO.none _
      | refine LeO.ite ?_ ?_
      | refine LeO.bind ?_ (fun _ => ?_)
def spec_ReadDeed.T4 : Bool × List (List Nat × List Nat) := (true, [([], []), ([], []), ([1], [1]), ([2], [2]), ([3], [3]), ([], []), ([5], [5]), ([6], [6]), ([7], [7]), ([4, 8], [4, 8]), ([0, 9], [0, 9]), ([10, 10, 0, 1, 2, 3, 4, 5, 6, 7, 8, 9, 10], [0, 10])])
def spec_ReadDeed.B4 : List Nat := [0, 0, 2, 6, 14, 0, 32, 96, 224, 510, 1023, 2047]
theorem spec_ReadDeed.tab4 : rtab .any (opsOf Tryd.f14 4) = spec_ReadDeed.T4 := by kernel_rfl
theorem spec_ReadDeed.bits4 : waitsOk spec_ReadDeed.T4.2 spec_ReadDeed.B4 = true := by kernel_rfl
set_option maxHeartbeats 8000000 in
set_option maxRecDepth 100000 in
theorem spec_ReadDeed.calls (k : Nat) (a0 : ByteArray) (r1 : Int) (r2 : ByteArray) (r3 : Bool) (w : World) (h : spec_ReadDeed.f k a0 = some (r1, r2, r3)) :
    Calls Tryd.prog 14 #[.string a0] w fun e w' => e = .returned (.tuple #[.agg #[.int .i64 r1, .string r2], .bool r3]) ∧ Below w.heap.size w w' := by
  have hu26 := Tryd.underlying26
  have HB := Aside0.mk (Below.refl w.heap.size w)
  have H : ((spec_l1Cut.f k a0 32).bind fun t183 => ((some (([(⟨2, (⟨#[]⟩ : ByteArray)⟩ : S26), (⟨3, (⟨#[]⟩ : ByteArray)⟩ : S26), (⟨4, (⟨#[]⟩ : ByteArray)⟩ : S26)] : List (S26)) : List (S26))).bind fun y186 => (if (t183.length : Int) = 2 then (if 1 < (t183.length : Int) then ((some (([(⟨0, rdOf ByteArray.empty t183 1⟩ : S26), (⟨1, rdOf ByteArray.empty t183 1⟩ : S26)] : List (S26)) : List (S26))).bind fun y191 => (if y186.length + y191.length < 5864062014805 then (spec_ReadDeed.j0 k a0 (y186 ++ y191)) else (none))) else (none)) else (spec_ReadDeed.j0 k a0 y186)))) = some (r1, r2, r3) := h
  clear h
  replace H := Option.bind_eq_some_iff.mp H
  obtain ⟨t183, A20, H⟩ := H
  replace H : ((some (([(⟨2, (⟨#[]⟩ : ByteArray)⟩ : S26), (⟨3, (⟨#[]⟩ : ByteArray)⟩ : S26), (⟨4, (⟨#[]⟩ : ByteArray)⟩ : S26)] : List (S26)) : List (S26))).bind fun y186 => (if (t183.length : Int) = 2 then (if 1 < (t183.length : Int) then ((some (([(⟨0, rdOf ByteArray.empty t183 1⟩ : S26), (⟨1, rdOf ByteArray.empty t183 1⟩ : S26)] : List (S26)) : List (S26))).bind fun y191 => (if y186.length + y191.length < 5864062014805 then (spec_ReadDeed.j0 k a0 (y186 ++ y191)) else (none))) else (none)) else (spec_ReadDeed.j0 k a0 y186))) = some (r1, r2, r3) := H
  have A2 := Aside0.mk A20
  clear A20
  obtain ⟨y186, hy186⟩ : ∃ y_ : List (S26), y_ = (([(⟨2, (⟨#[]⟩ : ByteArray)⟩ : S26), (⟨3, (⟨#[]⟩ : ByteArray)⟩ : S26), (⟨4, (⟨#[]⟩ : ByteArray)⟩ : S26)] : List (S26))) := ⟨_, rfl⟩
  replace H : (if (t183.length : Int) = 2 then (if 1 < (t183.length : Int) then ((some (([(⟨0, rdOf ByteArray.empty t183 1⟩ : S26), (⟨1, rdOf ByteArray.empty t183 1⟩ : S26)] : List (S26)) : List (S26))).bind fun y191 => (if y186.length + y191.length < 5864062014805 then (spec_ReadDeed.j0 k a0 (y186 ++ y191)) else (none))) else (none)) else (spec_ReadDeed.j0 k a0 y186)) = some (r1, r2, r3) := by first | (rw [hy186]; with_reducible exact H) | (have H2_ := (Option.bind_some _ _).symm.trans H; rw [hy186]; with_reducible exact H2_) | (have H2_ := (Option.bind_some _ _).symm.trans H; with_reducible exact H2_) | with_reducible exact H | (rw [hy186]; exact H) | exact H
  have Ny186 := Aside0.mk hy186
  clear hy186
  have HC3 := Aside0.mk H
  clear H
  go_enter Tryd.func14, Tryd.ntmps14
  go_upto_if 15 with (first | ((with_reducible refine gate_dst (N := 2) rfl ?_); refine box_event ?hg (N := 2) ?hd (cs := #[.int .i64 0, .string (⟨#[]⟩ : ByteArray)]) (t := 26) ?hr ?_; (case hd => rfl); (case hg => rfl); (case hr => first | (go_simp; done) | (go_simp; rfl)); intro gb182 hg w4 hbox hb; have BK182 := Aside0.mk (hbox); have GW182 := Aside0.mk ((sqG hg (sqB HB))); have GE182 := Aside0.mk ((sqG hg (sqB HB))); replace HB := sqS (sqB HB) hb; clear hb hbox hg) | ((with_reducible refine gate_callee (f := 34) rfl ?_); refine goesL_ (some 8) rfl rfl Tryd.func34 (by kernel_rfl) rfl #[.string a0, .int .u8 32] rfl sqA ?_; (with_reducible refine (spec_l1Cut.calls k a0 32 t183 _ A2.out).mono ?_); rintro e w5 ⟨v184, rfl, ho0, hb⟩; refine ⟨_, rfl, ?_⟩; have HO185 := sqL ho0 (sqB1 HB GE182); replace BK182 := sqT BK182 hb; replace HB := sqS (sqB1 HB GE182) hb; (try clear hb); (try clear ho0)) | ((with_reducible refine gate_dst (N := 12) rfl ?_); refine Kd.R_lit k26 _ 26 ?hg (N := 12) ?hd (xs := ([(⟨2, (⟨#[]⟩ : ByteArray)⟩ : S26), (⟨3, (⟨#[]⟩ : ByteArray)⟩ : S26), (⟨4, (⟨#[]⟩ : ByteArray)⟩ : S26)] : List (S26))) (inner := [.int .i64 2, .string (⟨#[]⟩ : ByteArray), .int .i64 3, .string (⟨#[]⟩ : ByteArray), .int .i64 4, .string (⟨#[]⟩ : ByteArray)]) (ok := fun _ => True) (okp := fun _ => True) ?hr ?hp (fun _ hk => hk) trivial (Below.refl _ _) (Nat.le_refl _) (by simp) ?_; (case hd => rfl); (case hg => rfl); (case hr => first | (go_simp; done) | (go_simp; rfl)); (case hp => exact (Reps.c2 (show Kd.M k26 _ _ _ (⟨2, (⟨#[]⟩ : ByteArray)⟩ : S26) [.int .i64 2, .string (⟨#[]⟩ : ByteArray)] from (k26_mkM _ _ _ (⟨2, (⟨#[]⟩ : ByteArray)⟩ : S26) )) (Reps.c2 (show Kd.M k26 _ _ _ (⟨3, (⟨#[]⟩ : ByteArray)⟩ : S26) [.int .i64 3, .string (⟨#[]⟩ : ByteArray)] from (k26_mkM _ _ _ (⟨3, (⟨#[]⟩ : ByteArray)⟩ : S26) )) (Reps.c2 (show Kd.M k26 _ _ _ (⟨4, (⟨#[]⟩ : ByteArray)⟩ : S26) [.int .i64 4, .string (⟨#[]⟩ : ByteArray)] from (k26_mkM _ _ _ (⟨4, (⟨#[]⟩ : ByteArray)⟩ : S26) )) (Reps.none _ _))))); intro v187 w6 ho7 hb hg_ hnew_; clear hg_ hnew_; (first | rw [← Ny186.out] at ho7 | (simp only [Int.reduceToNat] at ho7; rw [← Ny186.out] at ho7)); replace HO185 := sqU HO185 hb; have HO188 := Aside0.mk (Kd.R_lower (Kd.R_newB ho7 (sqK BK182)) (below_size (sqB1 HB GE182))); replace BK182 := sqT BK182 hb; replace HB := sqS (sqB1 HB GE182) hb; clear hb ho7; obtain ⟨Ao8, co8, eo8⟩ := Kd.R_slice HO185.out; subst eo8))
  (try simp only [Act.put, List.setIfInBounds_toArray, List.set_cons_zero, List.set_cons_succ])
  go_cut [5] (fun v5 wc => ∃ (kq : Nat) (x5_2 : List (S26)), Aside0 (spec_ReadDeed.j0 kq a0 x5_2 = some (r1, r2, r3)) ∧ Aside0 (kq ≤ k) ∧ Aside0 (Kd.R k26 26 wc w.heap.size (fun k_ => k_ ≠ gb182) v5 x5_2) ∧ Aside0 (wc.heap[gb182]? = some (.cells #[.int .i64 0, .string (⟨#[]⟩ : ByteArray)] 26 (0, 0))) ∧ Aside0 (Below w.heap.size w wc))
  case first =>
    have H := HC3.out
    clear HC3
    by_cases c9 : (t183.length : Int) = 2
    · rw [if_pos c9] at H
      have c9b0 : ((t183.length : Int) == 2) = true := beq_iff_eq.mpr c9
      have c9b1 : ((t183.length : Int) != 2) = false := bne_eq_false_iff_eq.mpr c9
      clear c9
      (first | rw [c9b0] | (simp only [i64_w, i32_w]; rw [c9b0]) | skip)
      by_cases c10 : 1 < (t183.length : Int)
      · rw [if_pos c10] at H
        have c10b0 : decide (1 < (t183.length : Int)) = true := decide_eq_true c10
        have c10b1 : decide (1 < t183.length) = true := decide_eq_true (by omega)
        clear c10
        obtain ⟨y191, hy191⟩ : ∃ y_ : List (S26), y_ = (([(⟨0, rdOf ByteArray.empty t183 1⟩ : S26), (⟨1, rdOf ByteArray.empty t183 1⟩ : S26)] : List (S26))) := ⟨_, rfl⟩
        replace H : (if y186.length + y191.length < 5864062014805 then (spec_ReadDeed.j0 k a0 (y186 ++ y191)) else (none)) = some (r1, r2, r3) := by first | (rw [hy191]; with_reducible exact H) | (have H2_ := (Option.bind_some _ _).symm.trans H; rw [hy191]; with_reducible exact H2_) | (have H2_ := (Option.bind_some _ _).symm.trans H; with_reducible exact H2_) | with_reducible exact H | (rw [hy191]; exact H) | exact H
        have Ny191 := Aside0.mk hy191
        clear hy191
        by_cases c11 : y186.length + y191.length < 5864062014805
        · rw [if_pos c11] at H
          have LMc11 := Aside0.mk c11
          clear c11
          obtain ⟨y194, hy194⟩ : ∃ y_ : List (S26), y_ = (y186 ++ y191) := ⟨_, rfl⟩
          replace H : (spec_ReadDeed.j0 k a0 y194) = some (r1, r2, r3) := by first | (rw [hy194]; with_reducible exact H) | (have H2_ := (Option.bind_some _ _).symm.trans H; rw [hy194]; with_reducible exact H2_) | (have H2_ := (Option.bind_some _ _).symm.trans H; with_reducible exact H2_) | with_reducible exact H | (rw [hy194]; exact H) | exact H
          have Ny194 := Aside0.mk hy194
          clear hy194
          have H' := Aside0.mk H
          clear H
          try go_wp2
          replace HO185 := Aside0.mk (Kd.R_drew HO185.out)
          replace HO188 := Aside0.mk (Kd.R_drew HO188.out)
          replace BK182 := Aside0.mk (blk_drew BK182.out)
          replace HB := Aside0.mk (below_drew1 HB.out)
          have p189 : 0 ≤ (1 : Int) := (by omega)
          have q189 : 1 < (t183.length : Int) := of_decide_eq_true (by first | (with_reducible assumption) | assumption)
          obtain ⟨ad189, e189, hx189_0⟩ := Kd.at_string (Kd.R_reads' HO185.out).2.2 1 p189 q189
          cases e189
          (try simp only [show (1 : Int).toNat = 1 from rfl, Nat.reduceMul, Nat.reduceEqDiff, Go.Addr.add, ↓reduceIte] at hx189_0)
          have qi189 : (1 < t183.length) = True := eq_true (by omega)
          (try rw [show ((1 : Int)).toNat = 1 from rfl] at hx189_0)
          replace p189 := eq_true p189
          replace q189 := eq_true q189
          have p190 : 0 ≤ (1 : Int) := (by omega)
          have q190 : 1 < (t183.length : Int) := of_decide_eq_true (by first | (with_reducible assumption) | assumption)
          obtain ⟨ad190, e190, hx190_0⟩ := Kd.at_string (Kd.R_reads' HO185.out).2.2 1 p190 q190
          obtain rfl : ad189 = ad190 := (by injection e190)
          (try simp only [show (1 : Int).toNat = 1 from rfl, Nat.reduceMul, Nat.reduceEqDiff, Go.Addr.add, ↓reduceIte] at hx190_0)
          have qi190 : (1 < t183.length) = True := eq_true (by omega)
          (try rw [show ((1 : Int)).toNat = 1 from rfl] at hx190_0)
          replace p190 := eq_true p190
          replace q190 := eq_true q190
          refine start_ (n := 12) (S := fun w' => w'.cell? ⟨ad189.block, ad189.off + 1, none⟩ = some (.string (rdOf ByteArray.empty t183 1)) ∧ w'.cell? ⟨ad189.block, ad189.off + 1, none⟩ = some (.string (rdOf ByteArray.empty t183 1))) (ds := [10]) #[false, false, false, false, false, false, false, false, false, false, false, false] (by kernel_rfl) rfl rfl ⟨hx189_0, hx190_0⟩ (fun hHeld => ?_); refine with_tabW spec_ReadDeed.tab4 spec_ReadDeed.bits4 (fun HT_ HW_ => ?_)
          generalize w6.drew = w12 at HO185 HO188 BK182 HB hx189_0 hx190_0 hHeld ⊢
          refine pure_ (i := 0) (N := some 16) (v := ?_) (a' := ?_) #[true, false, false, false, false, false, false, false, false, false, false, false] rfl rfl (any_of HT_.out (by kernel_rfl)) (fun _ _ _ h => h) (Or.inl ⟨by rfl, ?_⟩) ?_ ?_
          rotate_left
          · intro w'
            go_simp
            with_reducible rfl
          rotate_left
          · simp only [Act.put, List.setIfInBounds_toArray, List.set_cons_zero, List.set_cons_succ, i64_w, i32_w]
            rfl
          refine pure_ (i := 1) (N := some 17) (v := ?_) (a' := ?_) #[true, true, false, false, false, false, false, false, false, false, false, false] rfl rfl (any_of HT_.out (by kernel_rfl)) (fun _ _ _ h => h) (Or.inl ⟨by rfl, ?_⟩) ?_ ?_
          rotate_left
          · intro w'
            go_simp
            with_reducible rfl
          rotate_left
          · simp only [Act.put, List.setIfInBounds_toArray, List.set_cons_zero, List.set_cons_succ, i64_w, i32_w]
            rfl
          refine pure_ (i := 2) (N := some 18) (v := ?_) (a' := ?_) #[true, true, true, false, false, false, false, false, false, false, false, false] rfl rfl (any_of HT_.out (by kernel_rfl)) (fun _ _ _ h => h) (Or.inl ⟨by rfl, ?_⟩) ?_ ?_
          rotate_left
          · intro w'
            go_simp
            with_reducible rfl
          rotate_left
          · simp only [Act.put, List.setIfInBounds_toArray, List.set_cons_zero, List.set_cons_succ, i64_w, i32_w]
            rfl
          refine pure_ (i := 5) (N := some 21) (v := ?_) (a' := ?_) #[true, true, true, false, false, true, false, false, false, false, false, false] rfl rfl (any_of HT_.out (by kernel_rfl)) (fun _ _ _ h => h) (Or.inl ⟨by rfl, ?_⟩) ?_ ?_
          rotate_left
          · intro w'
            go_simp
            with_reducible rfl
          rotate_left
          · simp only [Act.put, List.setIfInBounds_toArray, List.set_cons_zero, List.set_cons_succ, i64_w, i32_w]
            rfl
          refine pure_ (i := 6) (N := some 22) (v := ?_) (a' := ?_) #[true, true, true, false, false, true, true, false, false, false, false, false] rfl rfl (any_of HT_.out (by kernel_rfl)) (fun _ _ _ h => h) (Or.inl ⟨by rfl, ?_⟩) ?_ ?_
          rotate_left
          · intro w'
            go_simp
            with_reducible rfl
          rotate_left
          · simp only [Act.put, List.setIfInBounds_toArray, List.set_cons_zero, List.set_cons_succ, i64_w, i32_w]
            rfl
          refine take_ (i := 3) (N := some 19) (v := ?_) (a' := ?_) #[true, true, true, true, false, true, true, false, false, false, false, false] rfl rfl (take_ofW HT_.out HW_.out (by kernel_rfl)) (fun _ _ _ h => h) (Or.inl ⟨by rfl, ?_⟩) hHeld ?_ ?_
          rotate_left
          · rintro w' ⟨s0, s1⟩
            go_simp
            with_reducible rfl
          rotate_left
          · simp only [Act.put, List.setIfInBounds_toArray, List.set_cons_zero, List.set_cons_succ, i64_w, i32_w]
            rfl
          refine pure_ (i := 4) (N := some 20) (v := ?_) (a' := ?_) #[true, true, true, true, true, true, true, false, false, false, false, false] rfl rfl (any_of HT_.out (by kernel_rfl)) (fun _ _ _ h => h) (Or.inl ⟨by rfl, ?_⟩) ?_ ?_
          rotate_left
          · intro w'
            go_simp
            with_reducible rfl
          rotate_left
          · simp only [Act.put, List.setIfInBounds_toArray, List.set_cons_zero, List.set_cons_succ, i64_w, i32_w]
            rfl
          refine take_ (i := 7) (N := some 23) (v := ?_) (a' := ?_) #[true, true, true, true, true, true, true, true, false, false, false, false] rfl rfl (take_ofW HT_.out HW_.out (by kernel_rfl)) (fun _ _ _ h => h) (Or.inl ⟨by rfl, ?_⟩) hHeld ?_ ?_
          rotate_left
          · rintro w' ⟨s0, s1⟩
            go_simp
            with_reducible rfl
          rotate_left
          · simp only [Act.put, List.setIfInBounds_toArray, List.set_cons_zero, List.set_cons_succ, i64_w, i32_w]
            rfl
          refine pure_ (i := 8) (N := some 24) (v := ?_) (a' := ?_) #[true, true, true, true, true, true, true, true, true, false, false, false] rfl rfl (any_of HT_.out (by kernel_rfl)) (fun _ _ _ h => h) (Or.inl ⟨by rfl, ?_⟩) ?_ ?_
          rotate_left
          · intro w'
            go_simp
            with_reducible rfl
          rotate_left
          · simp only [Act.put, List.setIfInBounds_toArray, List.set_cons_zero, List.set_cons_succ, i64_w, i32_w]
            rfl
          refine one_ (i := 9) (N := some 25) #[true, true, true, true, true, true, true, true, true, true, false, false] rfl rfl (one_of HT_.out (by kernel_rfl)) (by decide) (fun K hK => ?_)
          refine Kd.R_lit_step k26 _ 26 ?hg (N := 25) ?hd (xs := ([(⟨0, rdOf ByteArray.empty t183 1⟩ : S26), (⟨1, rdOf ByteArray.empty t183 1⟩ : S26)] : List (S26))) (inner := [.int .i64 0, .string (rdOf ByteArray.empty t183 1), .int .i64 1, .string (rdOf ByteArray.empty t183 1)]) (ok := fun _ => True) (okp := fun _ => True) ?hr ?hp (fun _ hk => hk) trivial (Below.refl _ _) (Nat.le_refl _) (by simp) ?_; (case hd => rfl); (case hg => rfl); (case hr => first | (go_simp; done) | (go_simp; rfl)); (case hp => exact (Reps.c2 (show Kd.M k26 _ _ _ (⟨0, rdOf ByteArray.empty t183 1⟩ : S26) [.int .i64 0, .string (rdOf ByteArray.empty t183 1)] from (k26_mkM _ _ _ (⟨0, rdOf ByteArray.empty t183 1⟩ : S26) )) (Reps.c2 (show Kd.M k26 _ _ _ (⟨1, rdOf ByteArray.empty t183 1⟩ : S26) [.int .i64 1, .string (rdOf ByteArray.empty t183 1)] from (k26_mkM _ _ _ (⟨1, rdOf ByteArray.empty t183 1⟩ : S26) )) (Reps.none _ _))))
          intro v192 w13 ho14 hb hg_ hnew_
          have HS0_ := (hb.cell (World.block_lt_of_cell? _ _ (hHeld.1))).trans (hHeld.1)
          have HS1_ := (hb.cell (World.block_lt_of_cell? _ _ (hHeld.2))).trans (hHeld.2)
          clear hg_ hnew_
          (first | rw [← Ny191.out] at ho14 | (simp only [Int.reduceToNat] at ho14; rw [← Ny191.out] at ho14))
          replace HO185 := sqU HO185 hb
          have HO193 := Aside0.mk (Kd.R_lower (Kd.R_newB (Kd.R_new' ho14 (Kd.R_lt (sqR HO188))) (sqK BK182)) (below_size (sqB1 HB GE182)))
          replace HO188 := Aside0.mk (Kd.R_elder' (sqR HO188) (Kd.R_base ho14) hb)
          replace BK182 := sqT BK182 hb
          replace HB := sqS (sqB1 HB GE182) hb
          clear hb ho14
          obtain ⟨Ao16, co16, eo16⟩ := Kd.R_slice HO193.out
          (first | subst eo16 | (injection eo16 with f1_ f2_ f3_; have f4_ := f1_.symm; have f5_ := f3_.symm; clear f1_ f2_ f3_; subst f4_; subst f5_))
          refine hK.out _ _ ⟨HS0_, HS1_⟩ (fun hHeld => ?_)
          clear hK K
          refine norm_ (a' := ?_) ?_ ?_
          rotate_left
          · show Act.put _ (some 25) _ = _
            simp only [Act.put, List.setIfInBounds_toArray, List.set_cons_zero, List.set_cons_succ, i64_w, i32_w]
            rfl
          refine last_ (i := 10) (N := some 26) #[true, true, true, true, true, true, true, true, true, true, true, false] rfl rfl (one_of HT_.out (by kernel_rfl)) (by decide) (fun K hK => ?_)
          refine Kd.R_append_rows_step k26 (w0 := w) w.heap.size (by rfl) (.tmp 16) (.tmp 25) 36 26 (.agg #[(.int .i64 0), (.string ⟨#[]⟩)]) 24 rfl Tryd.underlying36 info26 rfl (by decide) (by omega) v187 y186 y191 _ _ _ (fun k_ => some k_ ≠ (.slice Ao16 y191.length co16 : Value).ownBlock ∧ k_ ≠ gb182) (fun _ => False) rfl rfl ?aO ?aR (fun _ _ h => h) (fun _ h => h.elim) ?aF ?aB ?aS ?aL ?_
          (case aR => repeat (first | exact (Kd.R_reads' HO193.out).2.2 | (with_reducible refine Kd.C_alloc ?_ _) | (with_reducible refine Kd.C_drewN ?_ _) | (with_reducible refine Kd.C_drew ?_)))
          (case aB => exact (sqB1 HB GE182))
          (case aF => exact (fun k_ hk => ⟨Kd.fresh' (Kd.R_lt (sqR HO193)) k_ hk, Kd.freshB (sqK BK182) k_ hk⟩))
          (case aO => exact (by (with_reducible repeat (first | apply Kd.R_alloc | apply Kd.R_drewN | apply Kd.R_drew)); exact Kd.R_mono HO188.out (fun _ hk => ⟨hk.2, hk.1.2⟩)))
          (case aS => exact (below_size (sqB1 HB GE182)))
          (case aL => have := LMc11.out; omega)
          intro v195 w15 ho hb hg hat
          rw [← Ny194.out] at ho
          replace BK182 := Aside0.mk (blk_grown (sqK BK182) hg (Kd.R_away HO188.out (fun _ hk => hk.1.2)))
          replace HO185 := Aside0.mk (Kd.R_over' (sqR HO185) (Kd.R_typed (sqR HO188)) (by decide) hg)
          replace HO193 := Aside0.mk (Kd.R_after (ok := (fun k_ => k_ ≠ gb182)) (by (with_reducible repeat (first | apply Kd.R_alloc | apply Kd.R_drewN | apply Kd.R_drew)); exact Kd.R_mono HO193.out (fun _ hk => ⟨hk.2, hk.1.2⟩)) hg hat)
          replace HB := Aside0.mk (hb)
          have HO196 := Aside0.mk (ho)
          clear HO188
          clear ho hb hg hat
          refine hK.out _ _ ?_
          clear hK K
          refine norm_ (a' := ?_) ?_ ?_
          rotate_left
          · show Act.put _ (some 26) _ = _
            simp only [Act.put, List.setIfInBounds_toArray, List.set_cons_zero, List.set_cons_succ, i64_w, i32_w]
            rfl
          refine pure_ (i := 11) (N := some 5) (v := ?_) (a' := ?_) #[true, true, true, true, true, true, true, true, true, true, true, true] rfl rfl (any_of HT_.out (by kernel_rfl)) (fun _ _ _ h => h) (Or.inl ⟨by rfl, ?_⟩) ?_ ?_
          rotate_left
          · intro w'
            go_simp
            with_reducible rfl
          rotate_left
          · simp only [Act.put, List.setIfInBounds_toArray, List.set_cons_zero, List.set_cons_succ, i64_w, i32_w]
            rfl
          refine done_ (done_of HT_.out (by kernel_rfl)) ?_
          try go_wp2
          go_meet
          case rel => exact ⟨_, (y194), H', ⟨by first | omega | exact Nat.le_refl _⟩, ⟨by (with_reducible repeat (first | apply Kd.R_alloc | apply Kd.R_drewN | apply Kd.R_drew)); exact Kd.R_mono HO196.out (fun _ hk => hk.2)⟩, ⟨sqK BK182⟩, ⟨sqB1 HB GE182⟩⟩
        · rw [if_neg c11] at H
          exact absurd H (by simp)
      · rw [if_neg c10] at H
        exact absurd H (by simp)
    · rw [if_neg c9] at H
      have c9b0 : ((t183.length : Int) == 2) = false := beq_eq_false_iff_ne.mpr c9
      have c9b1 : ((t183.length : Int) != 2) = true := bne_iff_ne.mpr c9
      (first | rw [c9b0] | (simp only [i64_w, i32_w]; rw [c9b0]) | skip)
      have H' := Aside0.mk H
      clear H
      go_wp2
      go_meet
      case rel => exact ⟨_, (y186), H', ⟨by first | omega | exact Nat.le_refl _⟩, ⟨by (with_reducible repeat (first | apply Kd.R_alloc | apply Kd.R_drewN | apply Kd.R_drew)); exact Kd.R_mono HO188.out (fun _ hk => hk.2)⟩, ⟨sqK BK182⟩, ⟨sqB1 HB GE182⟩⟩
  case rest =>
    clear HC3
    try clear c1
    try clear p1
    try clear q1
    try clear hx1
    try clear qi1
    try clear c2
    try clear p2
    try clear c3
    try clear c9
    try clear c9b0
    try clear c9b1
    try clear c10
    try clear c10b0
    try clear c10b1
    try clear c11
    try clear c14
    try clear hx189_0
    try clear hx190_0
    try clear p189
    try clear p190
    try clear q189
    try clear q190
    obtain ⟨kq, x5_2, HA, HJ2, HO_5, BK182, HB⟩ := hcut
    cases kq with
    | zero => exact absurd HA.out (by simp [spec_ReadDeed.j0])
    | succ kj2 =>
      have H := HA.out
      clear HA
      simp only [spec_ReadDeed.j0] at H
      have H' := Aside0.mk H
      clear H
      go_wp2
      go_loopg [6] kj2 (fun kq v6 w' => ∃ (x6_2 : Int) (x183000_2 : Int) (x183001_2 : ByteArray), v6 = .int .i64 x6_2 ∧ Aside0 (spec_ReadDeed.l0 kq a0 x5_2 x6_2 = some (r1, r2, r3)) ∧ Aside0 (kq ≤ kj2) ∧ Aside0 (Kd.R k26 26 w' w.heap.size (fun k_ => k_ ≠ gb182) u5 x5_2) ∧ Aside0 (w'.heap[gb182]? = some (.cells #[.int .i64 x183000_2, .string x183001_2] 26 (0, 0))) ∧ Aside0 (Below w.heap.size w w'))
      case atStart => exact ⟨(0), (0), ((⟨#[]⟩ : ByteArray)), (by first | rfl | (simp; done) | (simp [*]; done)), H', ⟨Nat.le_refl _⟩, ⟨sqR HO_5⟩, ⟨sqK BK182⟩, ⟨sqB1 HB GE182⟩⟩
      case round =>
        clear H'
        try clear c1
        try clear p1
        try clear q1
        try clear hx1
        try clear qi1
        try clear c2
        try clear p2
        try clear c3
        try clear c9
        try clear c9b0
        try clear c9b1
        try clear c10
        try clear c10b0
        try clear c10b1
        try clear c11
        try clear c14
        try clear hx189_0
        try clear hx190_0
        try clear p1
        try clear p189
        try clear p190
        try clear p2
        try clear q1
        try clear q189
        try clear q190
        obtain ⟨x6_2, x183000_2, x183001_2, rfl, HA, HK2, HO_5, BK182, HB⟩ := hrel
        cases gk with
        | zero => exact absurd HA.out (by simp [spec_ReadDeed.l0])
        | succ k2 =>
          have H := HA.out
          clear HA
          simp only [spec_ReadDeed.l0] at H
          by_cases c17 : x6_2 < (x5_2.length : Int)
          · rw [if_pos c17] at H
            have c17b0 : decide (x6_2 < (x5_2.length : Int)) = true := decide_eq_true c17
            clear c17
            by_cases c18 : a0.toList = ([] : List UInt8)
            · rw [if_pos c18] at H
              have c18b0 : (a0.toList == ([] : List UInt8)) = true := beq_iff_eq.mpr c18
              try have c18b8 : a0.toList.isEmpty = true := by (have h_ := c18b0; (repeat rw [show ∀ z : List UInt8, (z == ([] : List UInt8)) = z.isEmpty from fun z => by cases z <;> rfl] at h_); exact h_)
              have c18b1 : (a0.toList != ([] : List UInt8)) = false := bne_eq_false_iff_eq.mpr c18
              clear c18
              have H' := Aside0.mk H
              clear H
              obtain ⟨Ao19, co19, eo19⟩ := Kd.R_slice HO_5.out
              subst eo19
              go_wp2
              go_roundg k2
              case measure => have := HJ2.out; have := HK2.out; omega
              case rel => exact ⟨(wrap64 (x6_2 + 1)), (x183000_2), (x183001_2), (by first | rfl | (simp; done) | (simp [*]; done)), H', ⟨by have := HJ2.out; have := HK2.out; omega⟩, ⟨sqR HO_5⟩, ⟨sqK BK182⟩, ⟨sqB1 HB GE182⟩⟩
            · rw [if_neg c18] at H
              have c18b0 : (a0.toList == ([] : List UInt8)) = false := beq_eq_false_iff_ne.mpr c18
              try have c18b8 : a0.toList.isEmpty = false := by (have h_ := c18b0; (repeat rw [show ∀ z : List UInt8, (z == ([] : List UInt8)) = z.isEmpty from fun z => by cases z <;> rfl] at h_); exact h_)
              have c18b1 : (a0.toList != ([] : List UInt8)) = true := bne_iff_ne.mpr c18
              by_cases c20 : 0 ≤ x6_2
              · rw [if_pos c20] at H
                have c20b0 : decide (0 ≤ x6_2) = true := decide_eq_true c20
                clear c20
                replace H := Option.bind_eq_some_iff.mp H
                obtain ⟨t198, A210, H⟩ := H
                replace H : (if t198.toList = a0.toList then (some ((rd_T26 x5_2 x6_2).f0, (rd_T26 x5_2 x6_2).f1, true)) else (spec_ReadDeed.l0 k2 a0 x5_2 (wrap64 (x6_2 + 1)))) = some (r1, r2, r3) := H
                have A21 := Aside0.mk A210
                clear A210
                by_cases c22 : t198.toList = a0.toList
                · rw [if_pos c22] at H
                  have c22b0 : (t198.toList == a0.toList) = true := beq_iff_eq.mpr c22
                  have c22b1 : (t198.toList != a0.toList) = false := bne_eq_false_iff_eq.mpr c22
                  clear c22
                  simp only [Option.some.injEq, Prod.mk.injEq] at H
                  obtain ⟨rfl, rfl, rfl⟩ := H
                  obtain ⟨Ao23, co23, eo23⟩ := Kd.R_slice HO_5.out
                  subst eo23
                  have p197 : 0 ≤ (x6_2 : Int) := of_decide_eq_true (by first | (with_reducible assumption) | assumption)
                  have q197 : x6_2 < (x5_2.length : Int) := of_decide_eq_true (by first | (with_reducible assumption) | assumption)
                  obtain ⟨ad197, e197, hx197_0, hx197_1⟩ := at_T26 (Kd.R_reads' HO_5.out).2.2 x6_2 p197 q197
                  cases e197
                  replace p197 := eq_true p197
                  replace q197 := eq_true q197
                  go_wp2_with (first | (go_at_call 11; (with_reducible refine (spec_DeedText.calls k2 ((rd_T26 x5_2 x6_2).f0) ((rd_T26 x5_2 x6_2).f1) t198 _ A21.out).mono ?_); rintro e w24 ⟨rfl, hb⟩; replace HO_5 := sqU HO_5 hb; replace BK182 := sqT BK182 hb; replace HB := sqS (sqB1 HB GE182) hb; (try clear hb); have p199 : 0 ≤ (x6_2 : Int) := of_decide_eq_true (by first | (with_reducible assumption) | assumption); have q199 : x6_2 < (x5_2.length : Int) := of_decide_eq_true (by first | (with_reducible assumption) | assumption); obtain ⟨ad199, e199, hx199_0, hx199_1⟩ := at_T26 (Kd.R_reads' HO_5.out).2.2 x6_2 p199 q199; obtain rfl : ad197 = ad199 := (by injection e199); replace p199 := eq_true p199; replace q199 := eq_true q199; have hcz25_0 := sqZ BK182 0 (.int .i64 x183000_2); have hcz25_1 := sqZ BK182 1 (.string x183001_2); have hfz25_0 := blk_frozen BK182.out 0; have hfz25_1 := blk_frozen BK182.out 1))
                  refine bodyPost_ret (results_ct rfl _ _ gb182 26 #[.int .i64 ((rd_T26 x5_2 x6_2).f0), .string ((rd_T26 x5_2 x6_2).f1)] (0, 0) _ rfl (by (with_reducible repeat (first | refine blk_drewN ?_ _ | refine blk_drew ?_ | refine blk_alloc ?_ _)); refine blk_put (cs := #[.int .i64 ((rd_T26 x5_2 x6_2).f0), .string x183001_2]) ?_ 1 _ rfl; (with_reducible repeat (first | refine blk_drewN ?_ _ | refine blk_drew ?_ | refine blk_alloc ?_ _)); refine blk_put (cs := #[.int .i64 x183000_2, .string x183001_2]) ?_ 0 _ rfl; (with_reducible repeat (first | refine blk_drewN ?_ _ | refine blk_drew ?_ | refine blk_alloc ?_ _)); exact BK182.out) Tryd.underlying26 rfl (by kernel_rfl)) rfl ?_
                  exact ⟨by first | rfl | (simp [errP_none, errP_some] <;> rfl) | (simp [*, errP_none, errP_some] <;> rfl), sqB1 HB GE182⟩
                · rw [if_neg c22] at H
                  have c22b0 : (t198.toList == a0.toList) = false := beq_eq_false_iff_ne.mpr c22
                  have c22b1 : (t198.toList != a0.toList) = true := bne_iff_ne.mpr c22
                  have H' := Aside0.mk H
                  clear H
                  obtain ⟨Ao26, co26, eo26⟩ := Kd.R_slice HO_5.out
                  subst eo26
                  have p197 : 0 ≤ (x6_2 : Int) := of_decide_eq_true (by first | (with_reducible assumption) | assumption)
                  have q197 : x6_2 < (x5_2.length : Int) := of_decide_eq_true (by first | (with_reducible assumption) | assumption)
                  obtain ⟨ad197, e197, hx197_0, hx197_1⟩ := at_T26 (Kd.R_reads' HO_5.out).2.2 x6_2 p197 q197
                  cases e197
                  replace p197 := eq_true p197
                  replace q197 := eq_true q197
                  go_wp2_with (first | (go_at_call 11; (with_reducible refine (spec_DeedText.calls k2 ((rd_T26 x5_2 x6_2).f0) ((rd_T26 x5_2 x6_2).f1) t198 _ A21.out).mono ?_); rintro e w27 ⟨rfl, hb⟩; replace HO_5 := sqU HO_5 hb; replace BK182 := sqT BK182 hb; replace HB := sqS (sqB1 HB GE182) hb; (try clear hb)))
                  go_roundg k2
                  case measure => have := HJ2.out; have := HK2.out; omega
                  case rel => exact ⟨(wrap64 (x6_2 + 1)), (x183000_2), (x183001_2), (by first | rfl | (simp; done) | (simp [*]; done)), H', ⟨by have := HJ2.out; have := HK2.out; omega⟩, ⟨sqR HO_5⟩, ⟨sqK BK182⟩, ⟨sqB1 HB GE182⟩⟩
              · rw [if_neg c20] at H
                exact absurd H (by simp)
          · rw [if_neg c17] at H
            have c17b0 : decide (x6_2 < (x5_2.length : Int)) = false := decide_eq_false c17
            clear c17
            simp only [Option.some.injEq, Prod.mk.injEq] at H
            obtain ⟨rfl, rfl, rfl⟩ := H
            obtain ⟨Ao28, co28, eo28⟩ := Kd.R_slice HO_5.out
            subst eo28
            have hcz29_0 := sqZ BK182 0 (.int .i64 x183000_2)
            have hcz29_1 := sqZ BK182 1 (.string x183001_2)
            have hfz29_0 := blk_frozen BK182.out 0
            have hfz29_1 := blk_frozen BK182.out 1
            go_wp2
            refine bodyPost_ret (results_ct rfl _ _ gb182 26 #[.int .i64 0, .string (⟨#[]⟩ : ByteArray)] (0, 0) _ rfl (by (with_reducible repeat (first | refine blk_drewN ?_ _ | refine blk_drew ?_ | refine blk_alloc ?_ _)); refine blk_put (cs := #[.int .i64 0, .string x183001_2]) ?_ 1 _ rfl; (with_reducible repeat (first | refine blk_drewN ?_ _ | refine blk_drew ?_ | refine blk_alloc ?_ _)); refine blk_put (cs := #[.int .i64 x183000_2, .string x183001_2]) ?_ 0 _ rfl; (with_reducible repeat (first | refine blk_drewN ?_ _ | refine blk_drew ?_ | refine blk_alloc ?_ _)); exact BK182.out) Tryd.underlying26 rfl (by kernel_rfl)) rfl ?_
            exact ⟨by first | rfl | (simp [errP_none, errP_some] <;> rfl) | (simp [*, errP_none, errP_some] <;> rfl), sqB1 HB GE182⟩

/-! ### slices_Index_string_string: function 49 -/
def slices_Index_string_string.l0 : Nat → List ByteArray → ByteArray → Int → Int → Option (Int)
  | 0, _, _, _, _ => none
  | k + 1, x0, x1, x7, x8 => if x8 < x7 then (if 0 ≤ x8 then (if x8 < (x0.length : Int) then (if x1.toList = (rdOf ByteArray.empty x0 x8).toList then (some x8) else (slices_Index_string_string.l0 k x0 x1 x7 (wrap64 (x8 + 1)))) else (none)) else (none)) else (some (-1))
def slices_Index_string_string.f (k : Nat) (l0 : List ByteArray) (a1 : ByteArray) : Option (Int) := slices_Index_string_string.l0 k l0 a1 (l0.length : Int) 0
theorem slices_Index_string_string.mono_l : ∀ k, (∀ y0 y1 y2 y3, LeO (slices_Index_string_string.l0 k y0 y1 y2 y3) (slices_Index_string_string.l0 (k + 1) y0 y1 y2 y3))
  | 0 => fun _ _ _ _ r h => by simp [slices_Index_string_string.l0] at h
  | k + 1 => by
    have ih0 := slices_Index_string_string.mono_l k
    · intro y0 y1 y2 y3
      unfold slices_Index_string_string.l0
      repeat' first
      | (with_reducible exact ih0 _ _ _ _)
      | (with_reducible exact LeO.refl _)
      | (with_reducible exact LeO.none _)
      | (with_reducible refine LeO.ite ?_ ?_)
      | (with_reducible refine LeO.bind ?_ (fun _ => ?_))
      | exact ih0 _ _ _ _
      | exact LeO.none _
      | refine LeO.ite ?_ ?_
      | refine LeO.bind ?_ (fun _ => ?_)
theorem slices_Index_string_string.mono : ∀ a0 a1 k, LeO (slices_Index_string_string.f k a0 a1) (slices_Index_string_string.f (k + 1) a0 a1) := by
  intro a0 a1 k
  have ih0 := slices_Index_string_string.mono_l k
  unfold slices_Index_string_string.f
  repeat' first
      | (with_reducible exact ih0 _ _ _ _)
      | (with_reducible exact LeO.refl _)
      | (with_reducible exact LeO.none _)
      | (with_reducible refine LeO.ite ?_ ?_)
      | (with_reducible refine LeO.bind ?_ (fun _ => ?_))
      | exact ih0 _ _ _ _
      | exact LeO.none _
      | refine LeO.ite ?_ ?_
      | refine LeO.bind ?_ (fun _ => ?_)
set_option maxHeartbeats 8000000 in
set_option maxRecDepth 100000 in
theorem slices_Index_string_string.calls (k : Nat) (A0 : Option Addr) (c0 : Nat) (l0 : List ByteArray) (a1 : ByteArray) (r : Int) (w : World) (hr0 : Kd.C Kd.string w A0 l0.length l0) (hc0 : l0.length ≤ c0) (h : slices_Index_string_string.f k l0 a1 = some r) :
    Calls Tryd.prog 49 #[.slice A0 l0.length c0, .string a1] w fun e w' => e = .returned (.int .i64 r) ∧ Drawn0 w w' := by
  have HR0 := Aside0.mk hr0
  have HC0 := Aside0.mk hc0
  clear hr0 hc0
  have H : (slices_Index_string_string.l0 k l0 a1 (l0.length : Int) 0) = some r := h
  clear h
  have H' := Aside0.mk H
  clear H
  go_enter Tryd.func49, Tryd.ntmps49
  go_wp2
  go_loopg [8] k (fun kq v8 w' => ∃ (x8_1 : Int), v8 = .int .i64 x8_1 ∧ Aside0 (slices_Index_string_string.l0 kq l0 a1 (l0.length : Int) x8_1 = some r) ∧ Aside0 (kq ≤ k) ∧ Drawn0 w w')
  case atStart => exact ⟨(0), (by first | rfl | (simp; done) | (simp [*]; done)), H', ⟨Nat.le_refl _⟩, by repeat (first | exact Drawn0.refl _ | apply Drawn0.step)⟩
  case round =>
    clear H'
    try clear p2
    obtain ⟨x8_1, rfl, HA, HK1, ⟨m1, rfl⟩⟩ := hrel
    cases gk with
    | zero => exact absurd HA.out (by simp [slices_Index_string_string.l0])
    | succ k1 =>
      have H := HA.out
      clear HA
      simp only [slices_Index_string_string.l0] at H
      by_cases c3 : x8_1 < (l0.length : Int)
      · rw [if_pos c3] at H
        have c3b0 : decide (x8_1 < (l0.length : Int)) = true := decide_eq_true c3
        clear c3
        by_cases c4 : 0 ≤ x8_1
        · rw [if_pos c4] at H
          have c4b0 : decide (0 ≤ x8_1) = true := decide_eq_true c4
          clear c4
          by_cases c5 : x8_1 < (l0.length : Int)
          · rw [if_pos c5] at H
            have c5b0 : decide (x8_1 < (l0.length : Int)) = true := decide_eq_true c5
            clear c5
            by_cases c6 : a1.toList = (rdOf ByteArray.empty l0 x8_1).toList
            · rw [if_pos c6] at H
              have c6b0 : (a1.toList == (rdOf ByteArray.empty l0 x8_1).toList) = true := beq_iff_eq.mpr c6
              have c6b1 : (a1.toList != (rdOf ByteArray.empty l0 x8_1).toList) = false := bne_eq_false_iff_eq.mpr c6
              clear c6
              obtain rfl := Option.some.inj H
              have p200 : 0 ≤ (x8_1 : Int) := of_decide_eq_true (by first | (with_reducible assumption) | assumption)
              have q200 : x8_1 < (l0.length : Int) := of_decide_eq_true (by first | (with_reducible assumption) | assumption)
              obtain ⟨ad200, e200, hx200_0⟩ := Kd.at_string HR0.out x8_1 p200 q200
              cases e200
              replace p200 := eq_true p200
              replace q200 := eq_true q200
              go_wp2
              go_ret
              exact ⟨by first | rfl | (simp; done) | (simp [*]; done), by repeat (first | exact Drawn0.refl _ | apply Drawn0.step)⟩
            · rw [if_neg c6] at H
              have c6b0 : (a1.toList == (rdOf ByteArray.empty l0 x8_1).toList) = false := beq_eq_false_iff_ne.mpr c6
              have c6b1 : (a1.toList != (rdOf ByteArray.empty l0 x8_1).toList) = true := bne_iff_ne.mpr c6
              have H' := Aside0.mk H
              clear H
              have p200 : 0 ≤ (x8_1 : Int) := of_decide_eq_true (by first | (with_reducible assumption) | assumption)
              have q200 : x8_1 < (l0.length : Int) := of_decide_eq_true (by first | (with_reducible assumption) | assumption)
              obtain ⟨ad200, e200, hx200_0⟩ := Kd.at_string HR0.out x8_1 p200 q200
              cases e200
              replace p200 := eq_true p200
              replace q200 := eq_true q200
              go_wp2
              go_roundg k1
              case measure => have := HK1.out; omega
              case rel => exact ⟨(wrap64 (x8_1 + 1)), (by first | rfl | (simp; done) | (simp [*]; done)), H', ⟨by have := HK1.out; omega⟩, by repeat (first | exact Drawn0.refl _ | apply Drawn0.step)⟩
          · rw [if_neg c5] at H
            exact absurd H (by simp)
        · rw [if_neg c4] at H
          exact absurd H (by simp)
      · rw [if_neg c3] at H
        have c3b0 : decide (x8_1 < (l0.length : Int)) = false := decide_eq_false c3
        clear c3
        obtain rfl := Option.some.inj H
        go_wp2
        go_ret
        exact ⟨by first | rfl | (simp; done) | (simp [*]; done), by repeat (first | exact Drawn0.refl _ | apply Drawn0.step)⟩

/-! ### impl_readDeed: function 35 -/
def impl_readDeed.f (k : Nat) (a0 : ByteArray) : Option (Int × ByteArray × Bool) := (strings_Cut.f a0 (⟨#[32]⟩ : ByteArray)).bind fun bt202 => ((slices_Index_string_string.f k (([(⟨#[100, 97, 110, 99, 101]⟩ : ByteArray), (⟨#[116, 97, 107, 101]⟩ : ByteArray), (⟨#[109, 105, 114, 114, 111, 114]⟩ : ByteArray), (⟨#[117, 110, 116, 105, 101]⟩ : ByteArray), (⟨#[98, 97, 99, 107]⟩ : ByteArray)] : List ByteArray)) bt202.1).bind fun t208 => (if a0.toList = ([] : List UInt8) then (some (0, (⟨#[]⟩ : ByteArray), false)) else ((impl_deedText.f k t208 bt202.2.1).bind fun t210 => (if t210.toList = a0.toList then (some (t208, bt202.2.1, true)) else (some (0, (⟨#[]⟩ : ByteArray), false))))))
theorem impl_readDeed.mono : ∀ a0 k, LeO (impl_readDeed.f k a0) (impl_readDeed.f (k + 1) a0) := by
  intro a0 k
  unfold impl_readDeed.f
  repeat' first
      | (with_reducible exact impl_deedText.mono _ _ _)
      | (with_reducible exact slices_Index_string_string.mono _ _ _)
      | (with_reducible exact LeO.refl _)
      | (with_reducible exact LeO.none _)
      | (with_reducible refine LeO.ite ?_ ?_)
      | (with_reducible refine LeO.bind ?_ (fun _ => ?_))
      | exact impl_deedText.mono _ _ _
      | exact slices_Index_string_string.mono _ _ _
      | exact LeO.none _
      | refine LeO.ite ?_ ?_
      | refine LeO.bind ?_ (fun _ => ?_)
set_option maxHeartbeats 8000000 in
set_option maxRecDepth 100000 in
theorem impl_readDeed.calls (k : Nat) (a0 : ByteArray) (r1 : Int) (r2 : ByteArray) (r3 : Bool) (w : World) (hG : Glob w) (h : impl_readDeed.f k a0 = some (r1, r2, r3)) :
    Calls Tryd.prog 35 #[.string a0] w fun e w' => e = .returned (.tuple #[.agg #[.int .i64 r1, .string r2], .bool r3]) ∧ Below w.heap.size w w' := by
  have hu26 := Tryd.underlying26
  have HB := Aside0.mk (Below.refl w.heap.size w)
  have H : ((strings_Cut.f a0 (⟨#[32]⟩ : ByteArray)).bind fun bt202 => ((slices_Index_string_string.f k (([(⟨#[100, 97, 110, 99, 101]⟩ : ByteArray), (⟨#[116, 97, 107, 101]⟩ : ByteArray), (⟨#[109, 105, 114, 114, 111, 114]⟩ : ByteArray), (⟨#[117, 110, 116, 105, 101]⟩ : ByteArray), (⟨#[98, 97, 99, 107]⟩ : ByteArray)] : List ByteArray)) bt202.1).bind fun t208 => (if a0.toList = ([] : List UInt8) then (some (0, (⟨#[]⟩ : ByteArray), false)) else ((impl_deedText.f k t208 bt202.2.1).bind fun t210 => (if t210.toList = a0.toList then (some (t208, bt202.2.1, true)) else (some (0, (⟨#[]⟩ : ByteArray), false))))))) = some (r1, r2, r3) := h
  clear h
  replace H := Option.bind_eq_some_iff.mp H
  obtain ⟨⟨t202, t203, t204⟩, A20, H⟩ := H
  replace H : ((slices_Index_string_string.f k (([(⟨#[100, 97, 110, 99, 101]⟩ : ByteArray), (⟨#[116, 97, 107, 101]⟩ : ByteArray), (⟨#[109, 105, 114, 114, 111, 114]⟩ : ByteArray), (⟨#[117, 110, 116, 105, 101]⟩ : ByteArray), (⟨#[98, 97, 99, 107]⟩ : ByteArray)] : List ByteArray)) t202).bind fun t208 => (if a0.toList = ([] : List UInt8) then (some (0, (⟨#[]⟩ : ByteArray), false)) else ((impl_deedText.f k t208 t203).bind fun t210 => (if t210.toList = a0.toList then (some (t208, t203, true)) else (some (0, (⟨#[]⟩ : ByteArray), false)))))) = some (r1, r2, r3) := H
  have A2 := Aside0.mk A20
  clear A20
  obtain ⟨y205, hy205⟩ : ∃ y_ : List ByteArray, y_ = (([(⟨#[100, 97, 110, 99, 101]⟩ : ByteArray), (⟨#[116, 97, 107, 101]⟩ : ByteArray), (⟨#[109, 105, 114, 114, 111, 114]⟩ : ByteArray), (⟨#[117, 110, 116, 105, 101]⟩ : ByteArray), (⟨#[98, 97, 99, 107]⟩ : ByteArray)] : List ByteArray)) := ⟨_, rfl⟩
  replace H : ((slices_Index_string_string.f k y205 t202).bind fun t208 => (if a0.toList = ([] : List UInt8) then (some (0, (⟨#[]⟩ : ByteArray), false)) else ((impl_deedText.f k t208 t203).bind fun t210 => (if t210.toList = a0.toList then (some (t208, t203, true)) else (some (0, (⟨#[]⟩ : ByteArray), false)))))) = some (r1, r2, r3) := by first | (rw [hy205]; with_reducible exact H) | (have H2_ := (Option.bind_some _ _).symm.trans H; rw [hy205]; with_reducible exact H2_) | (have H2_ := (Option.bind_some _ _).symm.trans H; with_reducible exact H2_) | with_reducible exact H | (rw [hy205]; exact H) | exact H
  have Ny205 := Aside0.mk hy205
  clear hy205
  replace H := Option.bind_eq_some_iff.mp H
  obtain ⟨t208, A30, H⟩ := H
  replace H : (if a0.toList = ([] : List UInt8) then (some (0, (⟨#[]⟩ : ByteArray), false)) else ((impl_deedText.f k t208 t203).bind fun t210 => (if t210.toList = a0.toList then (some (t208, t203, true)) else (some (0, (⟨#[]⟩ : ByteArray), false))))) = some (r1, r2, r3) := H
  have A3 := Aside0.mk A30
  clear A30
  by_cases c4 : a0.toList = ([] : List UInt8)
  · rw [if_pos c4] at H
    have c4b0 : (a0.toList == ([] : List UInt8)) = true := beq_iff_eq.mpr c4
    try have c4b8 : a0.toList.isEmpty = true := by (have h_ := c4b0; (repeat rw [show ∀ z : List UInt8, (z == ([] : List UInt8)) = z.isEmpty from fun z => by cases z <;> rfl] at h_); exact h_)
    have c4b1 : (a0.toList != ([] : List UInt8)) = false := bne_eq_false_iff_eq.mpr c4
    clear c4
    simp only [Option.some.injEq, Prod.mk.injEq] at H
    obtain ⟨rfl, rfl, rfl⟩ := H
    go_enter Tryd.func35, Tryd.ntmps35
    go_wp2_with (first | ((with_reducible refine gate_dst (N := 2) rfl ?_); refine box_event ?hg (N := 2) ?hd (cs := #[.int .i64 0, .string (⟨#[]⟩ : ByteArray)]) (t := 26) ?hr ?_; (case hd => rfl); (case hg => rfl); (case hr => first | (go_simp; done) | (go_simp; rfl)); intro gb201 hg w5 hbox hb; have BK201 := Aside0.mk (hbox); have GW201 := Aside0.mk ((sqG hg (sqB HB))); have GE201 := Aside0.mk ((sqG hg (sqB HB))); replace HB := sqS (sqB HB) hb; clear hb hbox hg) | ((with_reducible refine gate_callee (f := 36) rfl ?_); refine goesL_ (some 10) rfl rfl Tryd.func36 (by kernel_rfl) rfl #[.string a0, .string (⟨#[32]⟩ : ByteArray)] rfl sqA ?_; (with_reducible refine (strings_Cut.calls a0 (⟨#[32]⟩ : ByteArray) t202 t203 t204 _ ?sideG A2.out).mono ?_); (case sideG => exact Glob.below hG (sqB1 HB GE201)); rintro e w6 ⟨rfl, hb⟩; refine ⟨_, rfl, ?_⟩; replace BK201 := sqT BK201 hb; replace HB := sqS (sqB1 HB GE201) hb; (try clear hb)) | ((with_reducible refine gate_dst (N := 14) rfl ?_); refine Kd.R_lit Kd.string _ 9 ?hg (N := 14) ?hd (xs := ([(⟨#[100, 97, 110, 99, 101]⟩ : ByteArray), (⟨#[116, 97, 107, 101]⟩ : ByteArray), (⟨#[109, 105, 114, 114, 111, 114]⟩ : ByteArray), (⟨#[117, 110, 116, 105, 101]⟩ : ByteArray), (⟨#[98, 97, 99, 107]⟩ : ByteArray)] : List ByteArray)) (inner := [.string (⟨#[100, 97, 110, 99, 101]⟩ : ByteArray), .string (⟨#[116, 97, 107, 101]⟩ : ByteArray), .string (⟨#[109, 105, 114, 114, 111, 114]⟩ : ByteArray), .string (⟨#[117, 110, 116, 105, 101]⟩ : ByteArray), .string (⟨#[98, 97, 99, 107]⟩ : ByteArray)]) (ok := fun _ => True) (okp := fun _ => True) ?hr ?hp (fun _ hk => hk) trivial (Below.refl _ _) (Nat.le_refl _) (by simp) ?_; (case hd => rfl); (case hg => rfl); (case hr => first | (go_simp; done) | (go_simp; rfl)); (case hp => exact (Reps.one (show Kd.M Kd.string _ _ _ (⟨#[100, 97, 110, 99, 101]⟩ : ByteArray) [.string (⟨#[100, 97, 110, 99, 101]⟩ : ByteArray)] from rfl) (Reps.one (show Kd.M Kd.string _ _ _ (⟨#[116, 97, 107, 101]⟩ : ByteArray) [.string (⟨#[116, 97, 107, 101]⟩ : ByteArray)] from rfl) (Reps.one (show Kd.M Kd.string _ _ _ (⟨#[109, 105, 114, 114, 111, 114]⟩ : ByteArray) [.string (⟨#[109, 105, 114, 114, 111, 114]⟩ : ByteArray)] from rfl) (Reps.one (show Kd.M Kd.string _ _ _ (⟨#[117, 110, 116, 105, 101]⟩ : ByteArray) [.string (⟨#[117, 110, 116, 105, 101]⟩ : ByteArray)] from rfl) (Reps.one (show Kd.M Kd.string _ _ _ (⟨#[98, 97, 99, 107]⟩ : ByteArray) [.string (⟨#[98, 97, 99, 107]⟩ : ByteArray)] from rfl) (Reps.none _ _))))))); intro v206 w7 ho8 hb hg_ hnew_; clear hg_ hnew_; (first | rw [← Ny205.out] at ho8 | (simp only [Int.reduceToNat] at ho8; rw [← Ny205.out] at ho8)); have HO207 := sqL ho8 (sqB1 HB GE201); replace BK201 := sqT BK201 hb; replace HB := sqS (sqB1 HB GE201) hb; clear hb ho8; obtain ⟨Ao9, co9, eo9⟩ := Kd.R_slice HO207.out; subst eo9) | ((with_reducible refine gate_callee (f := 49) rfl ?_); refine goesL_ (some 16) rfl rfl Tryd.func49 (by kernel_rfl) rfl #[.slice Ao9 y205.length co9, .string t202] rfl sqA ?_; (with_reducible refine (slices_Index_string_string.calls k _ _ y205 t202 t208 _ ?side1 ?side2 A3.out).mono ?_); (case side1 => repeat (first | exact (Kd.R_reads' HO207.out).2.2 | (with_reducible refine Kd.C_alloc ?_ _) | (with_reducible refine Kd.C_drewN ?_ _) | (with_reducible refine Kd.C_drew ?_))); (case side2 => exact (Kd.R_reads' HO207.out).2.1); rintro e w' ⟨rfl, ⟨nd, rfl⟩⟩; refine ⟨_, rfl, ?_⟩; (try (rw [drewN_self w7]; generalize hq_ : World.drewN w7 _ = w7; have n0_ : Aside0 (Kd.R Kd.string 9 w7 w.heap.size (fun _ => True) (.slice Ao9 y205.length co9) y205) := ⟨by rw [← hq_]; exact (sqR HO207)⟩; have n1_ : Aside0 (w7.heap[gb201]? = some (.cells #[.int .i64 0, .string (⟨#[]⟩ : ByteArray)] 26 (0, 0))) := ⟨by rw [← hq_]; exact (sqK BK201)⟩; have n2_ : Aside0 (Below w.heap.size w w7) := ⟨by rw [← hq_]; exact (sqB1 HB GE201)⟩; clear HO207 BK201 HB hq_; have HO207 := n0_; have BK201 := n1_; have HB := n2_; clear n0_ n1_ n2_))) | ((with_reducible refine gate_dst (N := 7) rfl ?_); refine box_event ?hg (N := 7) ?hd (cs := #[.int .i64 0, .string (⟨#[]⟩ : ByteArray)]) (t := 26) ?hr ?_; (case hd => rfl); (case hg => rfl); (case hr => first | (go_simp; done) | (go_simp; rfl)); intro gb209 hg w10 hbox hb; replace HO207 := sqU HO207 hb; have BK209 := Aside0.mk (hbox); have GW209 := Aside0.mk ((sqG hg (sqB1 HB GE201))); have GE209 := Aside0.mk ((sqG hg (sqB1 HB GE201))); replace HB := sqS (sqB1 HB GE201) hb; have NB201_209 := Aside0.mk ((by rw [hg]; exact Nat.ne_of_lt (blk_lt (sqK BK201)) : gb201 ≠ gb209)); have NB209_201 := Aside0.mk ((by rw [hg]; exact Nat.ne_of_gt (blk_lt (sqK BK201)) : gb209 ≠ gb201)); replace BK201 := sqT BK201 hb; clear hb hbox hg; have hnb11 := NB209_201.out; have hnc11 := NB201_209.out; have hcz12_0 := sqZ BK209 0 (.int .i64 0); have hcz12_1 := sqZ BK209 1 (.string (⟨#[]⟩ : ByteArray)); have hfz12_0 := blk_frozen BK209.out 0; have hfz12_1 := blk_frozen BK209.out 1; have hcz13_0 := sqZ BK201 0 (.int .i64 0); have hcz13_1 := sqZ BK201 1 (.string (⟨#[]⟩ : ByteArray)); have hfz13_0 := blk_frozen BK201.out 0; have hfz13_1 := blk_frozen BK201.out 1))
    refine bodyPost_ret (results_ct rfl _ _ gb201 26 #[.int .i64 0, .string (⟨#[]⟩ : ByteArray)] (0, 0) _ rfl (by (with_reducible repeat (first | refine blk_drewN ?_ _ | refine blk_drew ?_ | refine blk_alloc ?_ _)); refine blk_put (cs := #[.int .i64 0, .string (⟨#[]⟩ : ByteArray)]) ?_ 1 _ rfl; (with_reducible repeat (first | refine blk_drewN ?_ _ | refine blk_drew ?_ | refine blk_alloc ?_ _)); refine blk_put (cs := #[.int .i64 0, .string (⟨#[]⟩ : ByteArray)]) ?_ 0 _ rfl; (with_reducible repeat (first | refine blk_drewN ?_ _ | refine blk_drew ?_ | refine blk_alloc ?_ _)); refine blk_far ?_ NB201_209.out _; (with_reducible repeat (first | refine blk_drewN ?_ _ | refine blk_drew ?_ | refine blk_alloc ?_ _)); refine blk_far ?_ NB201_209.out _; (with_reducible repeat (first | refine blk_drewN ?_ _ | refine blk_drew ?_ | refine blk_alloc ?_ _)); exact BK201.out) Tryd.underlying26 rfl (by kernel_rfl)) rfl ?_
    exact ⟨by first | rfl | (simp [errP_none, errP_some] <;> rfl) | (simp [*, errP_none, errP_some] <;> rfl), sqB2 HB GE201 GE209⟩
  · rw [if_neg c4] at H
    have c4b0 : (a0.toList == ([] : List UInt8)) = false := beq_eq_false_iff_ne.mpr c4
    try have c4b8 : a0.toList.isEmpty = false := by (have h_ := c4b0; (repeat rw [show ∀ z : List UInt8, (z == ([] : List UInt8)) = z.isEmpty from fun z => by cases z <;> rfl] at h_); exact h_)
    have c4b1 : (a0.toList != ([] : List UInt8)) = true := bne_iff_ne.mpr c4
    replace H := Option.bind_eq_some_iff.mp H
    obtain ⟨t210, A140, H⟩ := H
    replace H : (if t210.toList = a0.toList then (some (t208, t203, true)) else (some (0, (⟨#[]⟩ : ByteArray), false))) = some (r1, r2, r3) := H
    have A14 := Aside0.mk A140
    clear A140
    by_cases c15 : t210.toList = a0.toList
    · rw [if_pos c15] at H
      have c15b0 : (t210.toList == a0.toList) = true := beq_iff_eq.mpr c15
      have c15b1 : (t210.toList != a0.toList) = false := bne_eq_false_iff_eq.mpr c15
      clear c15
      simp only [Option.some.injEq, Prod.mk.injEq] at H
      obtain ⟨rfl, rfl, rfl⟩ := H
      go_enter Tryd.func35, Tryd.ntmps35
      go_wp2_with (first | ((with_reducible refine gate_dst (N := 2) rfl ?_); refine box_event ?hg (N := 2) ?hd (cs := #[.int .i64 0, .string (⟨#[]⟩ : ByteArray)]) (t := 26) ?hr ?_; (case hd => rfl); (case hg => rfl); (case hr => first | (go_simp; done) | (go_simp; rfl)); intro gb201 hg w16 hbox hb; have BK201 := Aside0.mk (hbox); have GW201 := Aside0.mk ((sqG hg (sqB HB))); have GE201 := Aside0.mk ((sqG hg (sqB HB))); replace HB := sqS (sqB HB) hb; clear hb hbox hg) | ((with_reducible refine gate_callee (f := 36) rfl ?_); refine goesL_ (some 10) rfl rfl Tryd.func36 (by kernel_rfl) rfl #[.string a0, .string (⟨#[32]⟩ : ByteArray)] rfl sqA ?_; (with_reducible refine (strings_Cut.calls a0 (⟨#[32]⟩ : ByteArray) t202 t203 t204 _ ?sideG A2.out).mono ?_); (case sideG => exact Glob.below hG (sqB1 HB GE201)); rintro e w17 ⟨rfl, hb⟩; refine ⟨_, rfl, ?_⟩; replace BK201 := sqT BK201 hb; replace HB := sqS (sqB1 HB GE201) hb; (try clear hb)) | ((with_reducible refine gate_dst (N := 14) rfl ?_); refine Kd.R_lit Kd.string _ 9 ?hg (N := 14) ?hd (xs := ([(⟨#[100, 97, 110, 99, 101]⟩ : ByteArray), (⟨#[116, 97, 107, 101]⟩ : ByteArray), (⟨#[109, 105, 114, 114, 111, 114]⟩ : ByteArray), (⟨#[117, 110, 116, 105, 101]⟩ : ByteArray), (⟨#[98, 97, 99, 107]⟩ : ByteArray)] : List ByteArray)) (inner := [.string (⟨#[100, 97, 110, 99, 101]⟩ : ByteArray), .string (⟨#[116, 97, 107, 101]⟩ : ByteArray), .string (⟨#[109, 105, 114, 114, 111, 114]⟩ : ByteArray), .string (⟨#[117, 110, 116, 105, 101]⟩ : ByteArray), .string (⟨#[98, 97, 99, 107]⟩ : ByteArray)]) (ok := fun _ => True) (okp := fun _ => True) ?hr ?hp (fun _ hk => hk) trivial (Below.refl _ _) (Nat.le_refl _) (by simp) ?_; (case hd => rfl); (case hg => rfl); (case hr => first | (go_simp; done) | (go_simp; rfl)); (case hp => exact (Reps.one (show Kd.M Kd.string _ _ _ (⟨#[100, 97, 110, 99, 101]⟩ : ByteArray) [.string (⟨#[100, 97, 110, 99, 101]⟩ : ByteArray)] from rfl) (Reps.one (show Kd.M Kd.string _ _ _ (⟨#[116, 97, 107, 101]⟩ : ByteArray) [.string (⟨#[116, 97, 107, 101]⟩ : ByteArray)] from rfl) (Reps.one (show Kd.M Kd.string _ _ _ (⟨#[109, 105, 114, 114, 111, 114]⟩ : ByteArray) [.string (⟨#[109, 105, 114, 114, 111, 114]⟩ : ByteArray)] from rfl) (Reps.one (show Kd.M Kd.string _ _ _ (⟨#[117, 110, 116, 105, 101]⟩ : ByteArray) [.string (⟨#[117, 110, 116, 105, 101]⟩ : ByteArray)] from rfl) (Reps.one (show Kd.M Kd.string _ _ _ (⟨#[98, 97, 99, 107]⟩ : ByteArray) [.string (⟨#[98, 97, 99, 107]⟩ : ByteArray)] from rfl) (Reps.none _ _))))))); intro v206 w18 ho19 hb hg_ hnew_; clear hg_ hnew_; (first | rw [← Ny205.out] at ho19 | (simp only [Int.reduceToNat] at ho19; rw [← Ny205.out] at ho19)); have HO207 := sqL ho19 (sqB1 HB GE201); replace BK201 := sqT BK201 hb; replace HB := sqS (sqB1 HB GE201) hb; clear hb ho19; obtain ⟨Ao20, co20, eo20⟩ := Kd.R_slice HO207.out; subst eo20) | ((with_reducible refine gate_callee (f := 49) rfl ?_); refine goesL_ (some 16) rfl rfl Tryd.func49 (by kernel_rfl) rfl #[.slice Ao20 y205.length co20, .string t202] rfl sqA ?_; (with_reducible refine (slices_Index_string_string.calls k _ _ y205 t202 t208 _ ?side1 ?side2 A3.out).mono ?_); (case side1 => repeat (first | exact (Kd.R_reads' HO207.out).2.2 | (with_reducible refine Kd.C_alloc ?_ _) | (with_reducible refine Kd.C_drewN ?_ _) | (with_reducible refine Kd.C_drew ?_))); (case side2 => exact (Kd.R_reads' HO207.out).2.1); rintro e w' ⟨rfl, ⟨nd, rfl⟩⟩; refine ⟨_, rfl, ?_⟩; (try (rw [drewN_self w18]; generalize hq_ : World.drewN w18 _ = w18; have n0_ : Aside0 (Kd.R Kd.string 9 w18 w.heap.size (fun _ => True) (.slice Ao20 y205.length co20) y205) := ⟨by rw [← hq_]; exact (sqR HO207)⟩; have n1_ : Aside0 (w18.heap[gb201]? = some (.cells #[.int .i64 0, .string (⟨#[]⟩ : ByteArray)] 26 (0, 0))) := ⟨by rw [← hq_]; exact (sqK BK201)⟩; have n2_ : Aside0 (Below w.heap.size w w18) := ⟨by rw [← hq_]; exact (sqB1 HB GE201)⟩; clear HO207 BK201 HB hq_; have HO207 := n0_; have BK201 := n1_; have HB := n2_; clear n0_ n1_ n2_))) | ((with_reducible refine gate_dst (N := 7) rfl ?_); refine box_event ?hg (N := 7) ?hd (cs := #[.int .i64 0, .string (⟨#[]⟩ : ByteArray)]) (t := 26) ?hr ?_; (case hd => rfl); (case hg => rfl); (case hr => first | (go_simp; done) | (go_simp; rfl)); intro gb209 hg w21 hbox hb; replace HO207 := sqU HO207 hb; have BK209 := Aside0.mk (hbox); have GW209 := Aside0.mk ((sqG hg (sqB1 HB GE201))); have GE209 := Aside0.mk ((sqG hg (sqB1 HB GE201))); replace HB := sqS (sqB1 HB GE201) hb; have NB201_209 := Aside0.mk ((by rw [hg]; exact Nat.ne_of_lt (blk_lt (sqK BK201)) : gb201 ≠ gb209)); have NB209_201 := Aside0.mk ((by rw [hg]; exact Nat.ne_of_gt (blk_lt (sqK BK201)) : gb209 ≠ gb201)); replace BK201 := sqT BK201 hb; clear hb hbox hg; have hnb22 := NB209_201.out; have hnc22 := NB201_209.out; have hcz23_0 := sqZ BK209 0 (.int .i64 0); have hcz23_1 := sqZ BK209 1 (.string (⟨#[]⟩ : ByteArray)); have hfz23_0 := blk_frozen BK209.out 0; have hfz23_1 := blk_frozen BK209.out 1) | (go_at_call 33; (with_reducible refine (impl_deedText.calls k t208 t203 t210 _ ?sideG A14.out).mono ?_); (case sideG => exact Glob.below hG (sqB2 HB GE201 GE209)); rintro e w24 ⟨rfl, hb⟩; replace HO207 := Aside0.mk (Kd.R_below (by (with_reducible repeat (first | apply Kd.R_alloc | apply Kd.R_drewN | apply Kd.R_drew)); exact (Kd.R_mono (Kd.R_far (p := ⟨gb209, 1, none⟩) (Kd.R_far (p := ⟨gb209, 0, none⟩) (Kd.R_types HO207.out BK209.out (by decide)) (fun _ hk => hk.2) (.int .i64 t208)) (fun _ hk => hk.2) (.string t203)) (fun _ h_ => h_.1))) hb); replace BK201 := Aside0.mk (blk_below (g := gb201) (o := .cells #[.int .i64 0, .string (⟨#[]⟩ : ByteArray)] 26 (0, 0)) (by (with_reducible repeat (first | refine blk_drewN ?_ _ | refine blk_drew ?_ | refine blk_alloc ?_ _)); refine blk_far ?_ NB201_209.out _; (with_reducible repeat (first | refine blk_drewN ?_ _ | refine blk_drew ?_ | refine blk_alloc ?_ _)); refine blk_far ?_ NB201_209.out _; (with_reducible repeat (first | refine blk_drewN ?_ _ | refine blk_drew ?_ | refine blk_alloc ?_ _)); exact BK201.out) hb); replace BK209 := Aside0.mk (blk_below (g := gb209) (o := .cells #[.int .i64 t208, .string t203] 26 (0, 0)) (by (with_reducible repeat (first | refine blk_drewN ?_ _ | refine blk_drew ?_ | refine blk_alloc ?_ _)); refine blk_put (cs := #[.int .i64 t208, .string (⟨#[]⟩ : ByteArray)]) ?_ 1 _ rfl; (with_reducible repeat (first | refine blk_drewN ?_ _ | refine blk_drew ?_ | refine blk_alloc ?_ _)); refine blk_put (cs := #[.int .i64 0, .string (⟨#[]⟩ : ByteArray)]) ?_ 0 _ rfl; (with_reducible repeat (first | refine blk_drewN ?_ _ | refine blk_drew ?_ | refine blk_alloc ?_ _)); exact BK209.out) hb); replace HB := sqS (sqB2 HB GE201 GE209) hb; (try clear hb); have hcz25_0 := sqZ BK209 0 (.int .i64 t208); have hcz25_1 := sqZ BK209 1 (.string t203); have hfz25_0 := blk_frozen BK209.out 0; have hfz25_1 := blk_frozen BK209.out 1; have hcz26_0 := sqZ BK201 0 (.int .i64 0); have hcz26_1 := sqZ BK201 1 (.string (⟨#[]⟩ : ByteArray)); have hfz26_0 := blk_frozen BK201.out 0; have hfz26_1 := blk_frozen BK201.out 1))
      refine bodyPost_ret (results_ct rfl _ _ gb201 26 #[.int .i64 t208, .string t203] (0, 0) _ rfl (by (with_reducible repeat (first | refine blk_drewN ?_ _ | refine blk_drew ?_ | refine blk_alloc ?_ _)); refine blk_put (cs := #[.int .i64 t208, .string (⟨#[]⟩ : ByteArray)]) ?_ 1 _ rfl; (with_reducible repeat (first | refine blk_drewN ?_ _ | refine blk_drew ?_ | refine blk_alloc ?_ _)); refine blk_put (cs := #[.int .i64 0, .string (⟨#[]⟩ : ByteArray)]) ?_ 0 _ rfl; (with_reducible repeat (first | refine blk_drewN ?_ _ | refine blk_drew ?_ | refine blk_alloc ?_ _)); exact BK201.out) Tryd.underlying26 rfl (by kernel_rfl)) rfl ?_
      exact ⟨by first | rfl | (simp [errP_none, errP_some] <;> rfl) | (simp [*, errP_none, errP_some] <;> rfl), sqB2 HB GE201 GE209⟩
    · rw [if_neg c15] at H
      have c15b0 : (t210.toList == a0.toList) = false := beq_eq_false_iff_ne.mpr c15
      have c15b1 : (t210.toList != a0.toList) = true := bne_iff_ne.mpr c15
      simp only [Option.some.injEq, Prod.mk.injEq] at H
      obtain ⟨rfl, rfl, rfl⟩ := H
      go_enter Tryd.func35, Tryd.ntmps35
      go_wp2_with (first | ((with_reducible refine gate_dst (N := 2) rfl ?_); refine box_event ?hg (N := 2) ?hd (cs := #[.int .i64 0, .string (⟨#[]⟩ : ByteArray)]) (t := 26) ?hr ?_; (case hd => rfl); (case hg => rfl); (case hr => first | (go_simp; done) | (go_simp; rfl)); intro gb201 hg w27 hbox hb; have BK201 := Aside0.mk (hbox); have GW201 := Aside0.mk ((sqG hg (sqB HB))); have GE201 := Aside0.mk ((sqG hg (sqB HB))); replace HB := sqS (sqB HB) hb; clear hb hbox hg) | ((with_reducible refine gate_callee (f := 36) rfl ?_); refine goesL_ (some 10) rfl rfl Tryd.func36 (by kernel_rfl) rfl #[.string a0, .string (⟨#[32]⟩ : ByteArray)] rfl sqA ?_; (with_reducible refine (strings_Cut.calls a0 (⟨#[32]⟩ : ByteArray) t202 t203 t204 _ ?sideG A2.out).mono ?_); (case sideG => exact Glob.below hG (sqB1 HB GE201)); rintro e w28 ⟨rfl, hb⟩; refine ⟨_, rfl, ?_⟩; replace BK201 := sqT BK201 hb; replace HB := sqS (sqB1 HB GE201) hb; (try clear hb)) | ((with_reducible refine gate_dst (N := 14) rfl ?_); refine Kd.R_lit Kd.string _ 9 ?hg (N := 14) ?hd (xs := ([(⟨#[100, 97, 110, 99, 101]⟩ : ByteArray), (⟨#[116, 97, 107, 101]⟩ : ByteArray), (⟨#[109, 105, 114, 114, 111, 114]⟩ : ByteArray), (⟨#[117, 110, 116, 105, 101]⟩ : ByteArray), (⟨#[98, 97, 99, 107]⟩ : ByteArray)] : List ByteArray)) (inner := [.string (⟨#[100, 97, 110, 99, 101]⟩ : ByteArray), .string (⟨#[116, 97, 107, 101]⟩ : ByteArray), .string (⟨#[109, 105, 114, 114, 111, 114]⟩ : ByteArray), .string (⟨#[117, 110, 116, 105, 101]⟩ : ByteArray), .string (⟨#[98, 97, 99, 107]⟩ : ByteArray)]) (ok := fun _ => True) (okp := fun _ => True) ?hr ?hp (fun _ hk => hk) trivial (Below.refl _ _) (Nat.le_refl _) (by simp) ?_; (case hd => rfl); (case hg => rfl); (case hr => first | (go_simp; done) | (go_simp; rfl)); (case hp => exact (Reps.one (show Kd.M Kd.string _ _ _ (⟨#[100, 97, 110, 99, 101]⟩ : ByteArray) [.string (⟨#[100, 97, 110, 99, 101]⟩ : ByteArray)] from rfl) (Reps.one (show Kd.M Kd.string _ _ _ (⟨#[116, 97, 107, 101]⟩ : ByteArray) [.string (⟨#[116, 97, 107, 101]⟩ : ByteArray)] from rfl) (Reps.one (show Kd.M Kd.string _ _ _ (⟨#[109, 105, 114, 114, 111, 114]⟩ : ByteArray) [.string (⟨#[109, 105, 114, 114, 111, 114]⟩ : ByteArray)] from rfl) (Reps.one (show Kd.M Kd.string _ _ _ (⟨#[117, 110, 116, 105, 101]⟩ : ByteArray) [.string (⟨#[117, 110, 116, 105, 101]⟩ : ByteArray)] from rfl) (Reps.one (show Kd.M Kd.string _ _ _ (⟨#[98, 97, 99, 107]⟩ : ByteArray) [.string (⟨#[98, 97, 99, 107]⟩ : ByteArray)] from rfl) (Reps.none _ _))))))); intro v206 w29 ho30 hb hg_ hnew_; clear hg_ hnew_; (first | rw [← Ny205.out] at ho30 | (simp only [Int.reduceToNat] at ho30; rw [← Ny205.out] at ho30)); have HO207 := sqL ho30 (sqB1 HB GE201); replace BK201 := sqT BK201 hb; replace HB := sqS (sqB1 HB GE201) hb; clear hb ho30; obtain ⟨Ao31, co31, eo31⟩ := Kd.R_slice HO207.out; subst eo31) | ((with_reducible refine gate_callee (f := 49) rfl ?_); refine goesL_ (some 16) rfl rfl Tryd.func49 (by kernel_rfl) rfl #[.slice Ao31 y205.length co31, .string t202] rfl sqA ?_; (with_reducible refine (slices_Index_string_string.calls k _ _ y205 t202 t208 _ ?side1 ?side2 A3.out).mono ?_); (case side1 => repeat (first | exact (Kd.R_reads' HO207.out).2.2 | (with_reducible refine Kd.C_alloc ?_ _) | (with_reducible refine Kd.C_drewN ?_ _) | (with_reducible refine Kd.C_drew ?_))); (case side2 => exact (Kd.R_reads' HO207.out).2.1); rintro e w' ⟨rfl, ⟨nd, rfl⟩⟩; refine ⟨_, rfl, ?_⟩; (try (rw [drewN_self w29]; generalize hq_ : World.drewN w29 _ = w29; have n0_ : Aside0 (Kd.R Kd.string 9 w29 w.heap.size (fun _ => True) (.slice Ao31 y205.length co31) y205) := ⟨by rw [← hq_]; exact (sqR HO207)⟩; have n1_ : Aside0 (w29.heap[gb201]? = some (.cells #[.int .i64 0, .string (⟨#[]⟩ : ByteArray)] 26 (0, 0))) := ⟨by rw [← hq_]; exact (sqK BK201)⟩; have n2_ : Aside0 (Below w.heap.size w w29) := ⟨by rw [← hq_]; exact (sqB1 HB GE201)⟩; clear HO207 BK201 HB hq_; have HO207 := n0_; have BK201 := n1_; have HB := n2_; clear n0_ n1_ n2_))) | ((with_reducible refine gate_dst (N := 7) rfl ?_); refine box_event ?hg (N := 7) ?hd (cs := #[.int .i64 0, .string (⟨#[]⟩ : ByteArray)]) (t := 26) ?hr ?_; (case hd => rfl); (case hg => rfl); (case hr => first | (go_simp; done) | (go_simp; rfl)); intro gb209 hg w32 hbox hb; replace HO207 := sqU HO207 hb; have BK209 := Aside0.mk (hbox); have GW209 := Aside0.mk ((sqG hg (sqB1 HB GE201))); have GE209 := Aside0.mk ((sqG hg (sqB1 HB GE201))); replace HB := sqS (sqB1 HB GE201) hb; have NB201_209 := Aside0.mk ((by rw [hg]; exact Nat.ne_of_lt (blk_lt (sqK BK201)) : gb201 ≠ gb209)); have NB209_201 := Aside0.mk ((by rw [hg]; exact Nat.ne_of_gt (blk_lt (sqK BK201)) : gb209 ≠ gb201)); replace BK201 := sqT BK201 hb; clear hb hbox hg; have hnb33 := NB209_201.out; have hnc33 := NB201_209.out; have hcz34_0 := sqZ BK209 0 (.int .i64 0); have hcz34_1 := sqZ BK209 1 (.string (⟨#[]⟩ : ByteArray)); have hfz34_0 := blk_frozen BK209.out 0; have hfz34_1 := blk_frozen BK209.out 1) | (go_at_call 33; (with_reducible refine (impl_deedText.calls k t208 t203 t210 _ ?sideG A14.out).mono ?_); (case sideG => exact Glob.below hG (sqB2 HB GE201 GE209)); rintro e w35 ⟨rfl, hb⟩; replace HO207 := Aside0.mk (Kd.R_below (by (with_reducible repeat (first | apply Kd.R_alloc | apply Kd.R_drewN | apply Kd.R_drew)); exact (Kd.R_mono (Kd.R_far (p := ⟨gb209, 1, none⟩) (Kd.R_far (p := ⟨gb209, 0, none⟩) (Kd.R_types HO207.out BK209.out (by decide)) (fun _ hk => hk.2) (.int .i64 t208)) (fun _ hk => hk.2) (.string t203)) (fun _ h_ => h_.1))) hb); replace BK201 := Aside0.mk (blk_below (g := gb201) (o := .cells #[.int .i64 0, .string (⟨#[]⟩ : ByteArray)] 26 (0, 0)) (by (with_reducible repeat (first | refine blk_drewN ?_ _ | refine blk_drew ?_ | refine blk_alloc ?_ _)); refine blk_far ?_ NB201_209.out _; (with_reducible repeat (first | refine blk_drewN ?_ _ | refine blk_drew ?_ | refine blk_alloc ?_ _)); refine blk_far ?_ NB201_209.out _; (with_reducible repeat (first | refine blk_drewN ?_ _ | refine blk_drew ?_ | refine blk_alloc ?_ _)); exact BK201.out) hb); replace BK209 := Aside0.mk (blk_below (g := gb209) (o := .cells #[.int .i64 t208, .string t203] 26 (0, 0)) (by (with_reducible repeat (first | refine blk_drewN ?_ _ | refine blk_drew ?_ | refine blk_alloc ?_ _)); refine blk_put (cs := #[.int .i64 t208, .string (⟨#[]⟩ : ByteArray)]) ?_ 1 _ rfl; (with_reducible repeat (first | refine blk_drewN ?_ _ | refine blk_drew ?_ | refine blk_alloc ?_ _)); refine blk_put (cs := #[.int .i64 0, .string (⟨#[]⟩ : ByteArray)]) ?_ 0 _ rfl; (with_reducible repeat (first | refine blk_drewN ?_ _ | refine blk_drew ?_ | refine blk_alloc ?_ _)); exact BK209.out) hb); replace HB := sqS (sqB2 HB GE201 GE209) hb; (try clear hb); have hcz36_0 := sqZ BK201 0 (.int .i64 0); have hcz36_1 := sqZ BK201 1 (.string (⟨#[]⟩ : ByteArray)); have hfz36_0 := blk_frozen BK201.out 0; have hfz36_1 := blk_frozen BK201.out 1))
      refine bodyPost_ret (results_ct rfl _ _ gb201 26 #[.int .i64 0, .string (⟨#[]⟩ : ByteArray)] (0, 0) _ rfl (by (with_reducible repeat (first | refine blk_drewN ?_ _ | refine blk_drew ?_ | refine blk_alloc ?_ _)); refine blk_put (cs := #[.int .i64 0, .string (⟨#[]⟩ : ByteArray)]) ?_ 1 _ rfl; (with_reducible repeat (first | refine blk_drewN ?_ _ | refine blk_drew ?_ | refine blk_alloc ?_ _)); refine blk_put (cs := #[.int .i64 0, .string (⟨#[]⟩ : ByteArray)]) ?_ 0 _ rfl; (with_reducible repeat (first | refine blk_drewN ?_ _ | refine blk_drew ?_ | refine blk_alloc ?_ _)); exact BK201.out) Tryd.underlying26 rfl (by kernel_rfl)) rfl ?_
      exact ⟨by first | rfl | (simp [errP_none, errP_some] <;> rfl) | (simp [*, errP_none, errP_some] <;> rfl), sqB2 HB GE201 GE209⟩

/-! ### impl_ReadDeed: function 15 -/
def impl_ReadDeed.f (k : Nat) (a0 : ByteArray) : Option (Int × ByteArray × Bool) := (impl_readDeed.f k a0).bind fun bt212 => (some (bt212.1, bt212.2.1, bt212.2.2))
theorem impl_ReadDeed.mono : ∀ a0 k, LeO (impl_ReadDeed.f k a0) (impl_ReadDeed.f (k + 1) a0) := by
  intro a0 k
  unfold impl_ReadDeed.f
  repeat' first
      | (with_reducible exact impl_readDeed.mono _ _)
      | (with_reducible exact LeO.refl _)
      | (with_reducible exact LeO.none _)
      | (with_reducible refine LeO.ite ?_ ?_)
      | (with_reducible refine LeO.bind ?_ (fun _ => ?_))
      | exact impl_readDeed.mono _ _
      | exact LeO.none _
      | refine LeO.ite ?_ ?_
      | refine LeO.bind ?_ (fun _ => ?_)
set_option maxHeartbeats 8000000 in
set_option maxRecDepth 100000 in
theorem impl_ReadDeed.calls (k : Nat) (a0 : ByteArray) (r1 : Int) (r2 : ByteArray) (r3 : Bool) (w : World) (hG : Glob w) (h : impl_ReadDeed.f k a0 = some (r1, r2, r3)) :
    Calls Tryd.prog 15 #[.string a0] w fun e w' => e = .returned (.tuple #[.agg #[.int .i64 r1, .string r2], .bool r3]) ∧ Below w.heap.size w w' := by
  have hu26 := Tryd.underlying26
  have HB := Aside0.mk (Below.refl w.heap.size w)
  have H : ((impl_readDeed.f k a0).bind fun bt212 => (some (bt212.1, bt212.2.1, bt212.2.2))) = some (r1, r2, r3) := h
  clear h
  replace H := Option.bind_eq_some_iff.mp H
  obtain ⟨⟨t212, t213, t214⟩, A20, H⟩ := H
  replace H : (some (t212, t213, t214)) = some (r1, r2, r3) := H
  have A2 := Aside0.mk A20
  clear A20
  simp only [Option.some.injEq, Prod.mk.injEq] at H
  obtain ⟨rfl, rfl, rfl⟩ := H
  go_enter Tryd.func15, Tryd.ntmps15
  go_wp2_with (first | ((with_reducible refine gate_dst (N := 2) rfl ?_); refine box_event ?hg (N := 2) ?hd (cs := #[.int .i64 0, .string (⟨#[]⟩ : ByteArray)]) (t := 26) ?hr ?_; (case hd => rfl); (case hg => rfl); (case hr => first | (go_simp; done) | (go_simp; rfl)); intro gb211 hg w3 hbox hb; have BK211 := Aside0.mk (hbox); have GW211 := Aside0.mk ((sqG hg (sqB HB))); have GE211 := Aside0.mk ((sqG hg (sqB HB))); replace HB := sqS (sqB HB) hb; clear hb hbox hg) | ((with_reducible refine gate_callee (f := 35) rfl ?_); refine goesL_ (some 5) rfl rfl Tryd.func35 (by kernel_rfl) rfl #[.string a0] rfl sqA ?_; (with_reducible refine (impl_readDeed.calls k a0 t212 t213 t214 _ ?sideG A2.out).mono ?_); (case sideG => exact Glob.below hG (sqB1 HB GE211)); rintro e w4 ⟨rfl, hb⟩; refine ⟨_, rfl, ?_⟩; replace BK211 := sqT BK211 hb; replace HB := sqS (sqB1 HB GE211) hb; (try clear hb); have hcz5_0 := sqZ BK211 0 (.int .i64 0); have hcz5_1 := sqZ BK211 1 (.string (⟨#[]⟩ : ByteArray)); have hfz5_0 := blk_frozen BK211.out 0; have hfz5_1 := blk_frozen BK211.out 1))
  refine bodyPost_ret (results_ct rfl _ _ gb211 26 #[.int .i64 t212, .string t213] (0, 0) _ rfl (by (with_reducible repeat (first | refine blk_drewN ?_ _ | refine blk_drew ?_ | refine blk_alloc ?_ _)); refine blk_put (cs := #[.int .i64 t212, .string (⟨#[]⟩ : ByteArray)]) ?_ 1 _ rfl; (with_reducible repeat (first | refine blk_drewN ?_ _ | refine blk_drew ?_ | refine blk_alloc ?_ _)); refine blk_put (cs := #[.int .i64 0, .string (⟨#[]⟩ : ByteArray)]) ?_ 0 _ rfl; (with_reducible repeat (first | refine blk_drewN ?_ _ | refine blk_drew ?_ | refine blk_alloc ?_ _)); exact BK211.out) Tryd.underlying26 rfl (by kernel_rfl)) rfl ?_
  exact ⟨by first | rfl | (simp [errP_none, errP_some] <;> rfl) | (simp [*, errP_none, errP_some] <;> rfl), sqB1 HB GE211⟩

/-! ### impl_FractionOk: function 40 -/
def impl_FractionOk.f (k : Nat) (a0_0 : Int) (a0_1 : Int) : Option (Bool) := (impl_isFraction.f k a0_0 a0_1).bind fun t216 => (some t216)
theorem impl_FractionOk.mono : ∀ a0 a1 k, LeO (impl_FractionOk.f k a0 a1) (impl_FractionOk.f (k + 1) a0 a1) := by
  intro a0 a1 k
  unfold impl_FractionOk.f
  repeat' first
      | (with_reducible exact impl_isFraction.mono _ _ _)
      | (with_reducible exact LeO.refl _)
      | (with_reducible exact LeO.none _)
      | (with_reducible refine LeO.ite ?_ ?_)
      | (with_reducible refine LeO.bind ?_ (fun _ => ?_))
      | exact impl_isFraction.mono _ _ _
      | exact LeO.none _
      | refine LeO.ite ?_ ?_
      | refine LeO.bind ?_ (fun _ => ?_)
set_option maxHeartbeats 8000000 in
set_option maxRecDepth 100000 in
theorem impl_FractionOk.calls (k : Nat) (a0_0 : Int) (a0_1 : Int) (r : Bool) (w : World) (h : impl_FractionOk.f k a0_0 a0_1 = some r) :
    Calls Tryd.prog 40 #[.agg #[.int .i64 a0_0, .int .i64 a0_1]] w fun e w' => e = .returned (.bool r) ∧ Below w.heap.size w w' := by
  have hu50 := Tryd.underlying50
  have HB := Aside0.mk (Below.refl w.heap.size w)
  have H : ((impl_isFraction.f k a0_0 a0_1).bind fun t216 => (some t216)) = some r := h
  clear h
  replace H := Option.bind_eq_some_iff.mp H
  obtain ⟨t216, A20, H⟩ := H
  replace H : (some t216) = some r := H
  have A2 := Aside0.mk A20
  clear A20
  obtain rfl := Option.some.inj H
  go_enter Tryd.func40, Tryd.ntmps40
  go_wp2_with (first | ((with_reducible refine gate_dst (N := 1) rfl ?_); refine box_event ?hg (N := 1) ?hd (cs := #[.int .i64 a0_0, .int .i64 a0_1]) (t := 50) ?hr ?_; (case hd => rfl); (case hg => rfl); (case hr => first | (go_simp; done) | (go_simp; rfl)); intro gb215 hg w3 hbox hb; have BK215 := Aside0.mk (hbox); have GW215 := Aside0.mk ((sqG hg (sqB HB))); have GE215 := Aside0.mk ((sqG hg (sqB HB))); replace HB := sqS (sqB HB) hb; clear hb hbox hg; have hcz4_0 := sqZ BK215 0 (.int .i64 a0_0); have hcz4_1 := sqZ BK215 1 (.int .i64 a0_1); have hfz4_0 := blk_frozen BK215.out 0; have hfz4_1 := blk_frozen BK215.out 1) | ((with_reducible refine gate_callee (f := 53) rfl ?_); refine goesL_ (some 4) rfl rfl Tryd.func53 (by kernel_rfl) rfl #[.agg #[.int .i64 a0_0, .int .i64 a0_1]] rfl sqA ?_; (with_reducible refine (impl_isFraction.calls k a0_0 a0_1 t216 _ A2.out).mono ?_); rintro e w5 ⟨rfl, hb⟩; refine ⟨_, rfl, ?_⟩; replace BK215 := sqT BK215 hb; replace HB := sqS (sqB1 HB GE215) hb; (try clear hb)))
  go_ret
  exact ⟨by first | rfl | (simp [errP_none, errP_some] <;> rfl) | (simp [*, errP_none, errP_some] <;> rfl), sqB1 HB GE215⟩

/-! ### laws_alive: function 27 -/
def laws_alive.f (k : Nat)  : Option (Bool) := (impl_FractionOk.f k 1 2).bind fun t217 => (if t217 = true then ((impl_FractionOk.f k 2 2).bind fun t218 => (some (!t218))) else (some false))
theorem laws_alive.mono : ∀ k, LeO (laws_alive.f k ) (laws_alive.f (k + 1) ) := by
  intro  k
  unfold laws_alive.f
  repeat' first
      | (with_reducible exact impl_FractionOk.mono _ _ _)
      | (with_reducible exact LeO.refl _)
      | (with_reducible exact LeO.none _)
      | (with_reducible refine LeO.ite ?_ ?_)
      | (with_reducible refine LeO.bind ?_ (fun _ => ?_))
      | exact impl_FractionOk.mono _ _ _
      | exact LeO.none _
      | refine LeO.ite ?_ ?_
      | refine LeO.bind ?_ (fun _ => ?_)
set_option maxHeartbeats 8000000 in
set_option maxRecDepth 100000 in
theorem laws_alive.calls (k : Nat)  (r : Bool) (w : World) (h : laws_alive.f k  = some r) :
    Calls Tryd.prog 27 #[] w fun e w' => e = .returned (.bool r) ∧ Below w.heap.size w w' := by
  have hu50 := Tryd.underlying50
  have HB := Aside0.mk (Below.refl w.heap.size w)
  have H : ((impl_FractionOk.f k 1 2).bind fun t217 => (if t217 = true then ((impl_FractionOk.f k 2 2).bind fun t218 => (some (!t218))) else (some false))) = some r := h
  clear h
  replace H := Option.bind_eq_some_iff.mp H
  obtain ⟨t217, A10, H⟩ := H
  replace H : (if t217 = true then ((impl_FractionOk.f k 2 2).bind fun t218 => (some (!t218))) else (some false)) = some r := H
  have A1 := Aside0.mk A10
  clear A10
  by_cases c2 : t217 = true
  · subst c2
    have H1 : ((impl_FractionOk.f k 2 2).bind fun t218 => (some (!t218))) = some r := by rw [if_pos rfl] at H; exact H
    clear H
    have H := H1
    clear H1
    replace H := Option.bind_eq_some_iff.mp H
    obtain ⟨t218, A30, H⟩ := H
    replace H : (some (!t218)) = some r := H
    have A3 := Aside0.mk A30
    clear A30
    obtain rfl := Option.some.inj H
    go_enter Tryd.func27, Tryd.ntmps27
    go_wp2_with (first | ((with_reducible refine gate_callee (f := 40) rfl ?_); refine goesL_ (some 2) rfl rfl Tryd.func40 (by kernel_rfl) rfl #[.agg #[.int .i64 1, .int .i64 2]] rfl sqA ?_; (with_reducible refine (impl_FractionOk.calls k 1 2 true _ A1.out).mono ?_); rintro e w4 ⟨rfl, hb⟩; refine ⟨_, rfl, ?_⟩; replace HB := sqS (sqB HB) hb; (try clear hb)) | (go_at_call 40; (with_reducible refine (impl_FractionOk.calls k 2 2 t218 _ A3.out).mono ?_); rintro e w5 ⟨rfl, hb⟩; replace HB := sqS (sqB HB) hb; (try clear hb)))
    go_ret
    exact ⟨by first | rfl | (simp [errP_none, errP_some] <;> rfl) | (simp [*, errP_none, errP_some] <;> rfl), sqB HB⟩
  · replace c2 := Bool.eq_false_iff.mpr c2
    subst c2
    have H1 : (some false) = some r := by rw [if_neg (show ¬ (false = true) by decide)] at H; exact H
    clear H
    have H := H1
    clear H1
    obtain rfl := Option.some.inj H
    go_enter Tryd.func27, Tryd.ntmps27
    go_wp2_with (first | ((with_reducible refine gate_callee (f := 40) rfl ?_); refine goesL_ (some 2) rfl rfl Tryd.func40 (by kernel_rfl) rfl #[.agg #[.int .i64 1, .int .i64 2]] rfl sqA ?_; (with_reducible refine (impl_FractionOk.calls k 1 2 false _ A1.out).mono ?_); rintro e w6 ⟨rfl, hb⟩; refine ⟨_, rfl, ?_⟩; replace HB := sqS (sqB HB) hb; (try clear hb)))
    go_ret
    exact ⟨by first | rfl | (simp [errP_none, errP_some] <;> rfl) | (simp [*, errP_none, errP_some] <;> rfl), sqB HB⟩

end Go.Proofs.YtnojjblkmepblaaDoor.PFnReadDeed
