/- Lean functions of the Go functions that the law FnDeskDo reaches, each with its contract: made by a program of this session. -/
import Derived.Test.YtofmlbgfcohhoaaGreatDoorPFnDeskDox14
namespace Go.Proofs.YtofmlbgfcohhoaaGreatDoor.PFnDeskDo
open Go.RowKit Go.Proofs.YtofmlbgfcohhoaaGreatDoorW.PrintWords Go.Proofs.YtofmlbgfcohhoaaGreatDoorW.PrintLast Go.Proofs.YtofmlbgfcohhoaaGreatDoorW.PrintMore Go.Proofs.YtofmlbgfcohhoaaGreatDoor.Lib
attribute [local go_sem] max2_int min2_int max_two min_two max_three min_three max_four min_four   -- for this text's walks alone
set_option linter.unusedVariables false
set_option linter.unusedSimpArgs false

/-! ### spec_l20Deed: function 68 -/
def spec_l20Deed.j0 : Nat → List Int → Int → Int → ByteArray → Option (Int × ByteArray × Int)
 | 0, _, _, _, _ => none
 | k + 1, x1000, x1001, x448000, x448001 => (spec_l20Rd_odd.f k x1000 x1001 40).bind fun bt454 => (if bt454.1 = true then (if x448001.size + 1 ≤ 9223372036854775807 then (some (x448000, x448001 ++ (⟨#[120]⟩ : ByteArray), bt454.2)) else (none)) else (some (x448000, x448001, bt454.2)))
def spec_l20Deed.f (k : Nat) (s0_0 : List Int) (s0_1 : Int) : Option (Int × ByteArray × Int) := (some (([0, 0, 0, 1, 1, 2, 3, 4] : List Int) : List Int)).bind fun y439 => ((spec_l20Rd_pick.f k s0_0 s0_1 8).bind fun bt442 => (if 0 ≤ bt442.1 then (if bt442.1 < (y439.length : Int) then ((spec_l20Rd_pick.f k s0_0 bt442.2 60).bind fun bt445 => (if (wrap64 ((rd y439 bt442.1) + (wrap64 ((wrap64 (Int.tdiv bt445.1 59)) * 5)))) = 0 then ((spec_l20Dance.f k s0_0 bt445.2 6 20).bind fun bt448 => (spec_l20Deed.j0 k s0_0 bt448.2 (wrap64 ((rd y439 bt442.1) + (wrap64 ((wrap64 (Int.tdiv bt445.1 59)) * 5)))) bt448.1)) else (if (wrap64 ((rd y439 bt442.1) + (wrap64 ((wrap64 (Int.tdiv bt445.1 59)) * 5)))) = 1 then ((spec_l20Tied.f k s0_0 bt445.2).bind fun bt450 => ((spec_FractionText.f k bt450.1 bt450.2.1).bind fun t453 => (spec_l20Deed.j0 k s0_0 bt450.2.2 (wrap64 ((rd y439 bt442.1) + (wrap64 ((wrap64 (Int.tdiv bt445.1 59)) * 5)))) t453))) else (spec_l20Deed.j0 k s0_0 bt445.2 (wrap64 ((rd y439 bt442.1) + (wrap64 ((wrap64 (Int.tdiv bt445.1 59)) * 5)))) (⟨#[]⟩ : ByteArray))))) else (none)) else (none)))
theorem spec_l20Deed.mono_l : ∀ k, (∀ y0 y1 y2 y3, LeO (spec_l20Deed.j0 k y0 y1 y2 y3) (spec_l20Deed.j0 (k + 1) y0 y1 y2 y3))
 | 0 => fun _ _ _ _ r h => by simp [spec_l20Deed.j0] at h
 | k + 1 => by
  have ih0 := spec_l20Deed.mono_l k
  ·intro y0 y1 y2 y3
   unfold spec_l20Deed.j0
   repeat' first
   | (with_reducible exact ih0 _ _ _ _)
   | (with_reducible exact spec_FractionText.mono _ _ _)
   | (with_reducible exact spec_l20Dance.mono _ _ _ _ _)
   | (with_reducible exact spec_l20Rd_odd.mono _ _ _ _)
   | (with_reducible exact spec_l20Rd_pick.mono _ _ _ _)
   | (with_reducible exact spec_l20Tied.mono _ _ _)
   | (with_reducible exact LeO.refl _)
   | (with_reducible exact LeO.none _)
   | (with_reducible refine LeO.ite ?_ ?_)
   | (with_reducible refine LeO.bind ?_ (fun _ => ?_))
theorem spec_l20Deed.mono : ∀ a0 a1 k, LeO (spec_l20Deed.f k a0 a1) (spec_l20Deed.f (k + 1) a0 a1) := by
 intro a0 a1 k
 have ih0 := spec_l20Deed.mono_l k
 unfold spec_l20Deed.f
 repeat' first
   | (with_reducible exact ih0 _ _ _ _)
   | (with_reducible exact spec_FractionText.mono _ _ _)
   | (with_reducible exact spec_l20Dance.mono _ _ _ _ _)
   | (with_reducible exact spec_l20Rd_odd.mono _ _ _ _)
   | (with_reducible exact spec_l20Rd_pick.mono _ _ _ _)
   | (with_reducible exact spec_l20Tied.mono _ _ _)
   | (with_reducible exact LeO.refl _)
   | (with_reducible exact LeO.none _)
   | (with_reducible refine LeO.ite ?_ ?_)
   | (with_reducible refine LeO.bind ?_ (fun _ => ?_))
def spec_l20Deed.T1 : Bool × List (List Nat × List Nat) := (true, [([], []), ([], []), ([1], [1]), ([0, 2], [0, 2]), ([3], [3]), ([], []), ([5, 2], [5]), ([6], [6]), ([7], [7]), ([4, 8], [4, 8]), ([9], [9]), ([], []), ([11, 10, 6, 0, 1, 2, 3, 4, 5, 6, 7, 8, 9, 10, 11], [10, 11])])
def spec_l20Deed.B1 : List Nat := [0, 0, 2, 7, 15, 0, 38, 102, 230, 511, 1023, 0, 4095]
theorem spec_l20Deed.tab1 : rtab .any (opsOf Tryz.f68 1) = spec_l20Deed.T1 := by kernel_rfl
theorem spec_l20Deed.bits1 : waitsOk spec_l20Deed.T1.2 spec_l20Deed.B1 = true := by kernel_rfl
set_option maxHeartbeats 8000000 in
set_option maxRecDepth 100000 in
theorem spec_l20Deed.calls (k : Nat) (g : Nat) (s0_0 : List Int) (s0_1 : Int) (r1 : Int) (r2 : ByteArray) (r3 : Int) (w0 w : World) (hI : IsS131 w0 w g s0_0 s0_1) (hB : Below w0.heap.size w0 w) (h : spec_l20Deed.f k s0_0 s0_1 = some (r1, r2, r3)) :
  Calls Tryz.prog 68 #[.pointer (some ⟨g, 0, none⟩)] w fun e w' => e = .returned (.agg #[.int .i64 r1, .string r2]) ∧ IsS131 w0 w' g s0_0 r3 ∧ Below w0.heap.size w0 w' ∧ KeepBut w w' g none := by
 have hu38 := Tryz.underlying38
 have HI0 := Aside0.mk hI
 have HK := Aside0.mk (KeepBut.refl w g none)
 have HL := Aside0.mk hB.size
 clear hI
 have HW0 := Aside0.mk hB.size
 have HB := Aside0.mk hB
 clear hB
 have H : ((some (([0, 0, 0, 1, 1, 2, 3, 4] : List Int) : List Int)).bind fun y439 => ((spec_l20Rd_pick.f k s0_0 s0_1 8).bind fun bt442 => (if 0 ≤ bt442.1 then (if bt442.1 < (y439.length : Int) then ((spec_l20Rd_pick.f k s0_0 bt442.2 60).bind fun bt445 => (if (wrap64 ((rd y439 bt442.1) + (wrap64 ((wrap64 (Int.tdiv bt445.1 59)) * 5)))) = 0 then ((spec_l20Dance.f k s0_0 bt445.2 6 20).bind fun bt448 => (spec_l20Deed.j0 k s0_0 bt448.2 (wrap64 ((rd y439 bt442.1) + (wrap64 ((wrap64 (Int.tdiv bt445.1 59)) * 5)))) bt448.1)) else (if (wrap64 ((rd y439 bt442.1) + (wrap64 ((wrap64 (Int.tdiv bt445.1 59)) * 5)))) = 1 then ((spec_l20Tied.f k s0_0 bt445.2).bind fun bt450 => ((spec_FractionText.f k bt450.1 bt450.2.1).bind fun t453 => (spec_l20Deed.j0 k s0_0 bt450.2.2 (wrap64 ((rd y439 bt442.1) + (wrap64 ((wrap64 (Int.tdiv bt445.1 59)) * 5)))) t453))) else (spec_l20Deed.j0 k s0_0 bt445.2 (wrap64 ((rd y439 bt442.1) + (wrap64 ((wrap64 (Int.tdiv bt445.1 59)) * 5)))) (⟨#[]⟩ : ByteArray))))) else (none)) else (none)))) = some (r1, r2, r3) := h
 clear h
 obtain ⟨y439, hy439⟩ : ∃ y_ : List Int, y_ = (([0, 0, 0, 1, 1, 2, 3, 4] : List Int)) := ⟨_, rfl⟩
 replace H : ((spec_l20Rd_pick.f k s0_0 s0_1 8).bind fun bt442 => (if 0 ≤ bt442.1 then (if bt442.1 < (y439.length : Int) then ((spec_l20Rd_pick.f k s0_0 bt442.2 60).bind fun bt445 => (if (wrap64 ((rd y439 bt442.1) + (wrap64 ((wrap64 (Int.tdiv bt445.1 59)) * 5)))) = 0 then ((spec_l20Dance.f k s0_0 bt445.2 6 20).bind fun bt448 => (spec_l20Deed.j0 k s0_0 bt448.2 (wrap64 ((rd y439 bt442.1) + (wrap64 ((wrap64 (Int.tdiv bt445.1 59)) * 5)))) bt448.1)) else (if (wrap64 ((rd y439 bt442.1) + (wrap64 ((wrap64 (Int.tdiv bt445.1 59)) * 5)))) = 1 then ((spec_l20Tied.f k s0_0 bt445.2).bind fun bt450 => ((spec_FractionText.f k bt450.1 bt450.2.1).bind fun t453 => (spec_l20Deed.j0 k s0_0 bt450.2.2 (wrap64 ((rd y439 bt442.1) + (wrap64 ((wrap64 (Int.tdiv bt445.1 59)) * 5)))) t453))) else (spec_l20Deed.j0 k s0_0 bt445.2 (wrap64 ((rd y439 bt442.1) + (wrap64 ((wrap64 (Int.tdiv bt445.1 59)) * 5)))) (⟨#[]⟩ : ByteArray))))) else (none)) else (none))) = some (r1, r2, r3) := sqW hy439 H
 have Ny439 := Aside0.mk hy439
 clear hy439
 obtain ⟨⟨t442, t443⟩, A2, H⟩ := sqD H
 try dsimp only at H
 obtain ⟨c3, H⟩ := sqI H
 have c3b0 : decide (0 ≤ t442) = true := decide_eq_true c3
 clear c3
 obtain ⟨c4, H⟩ := sqI H
 have c4b0 : decide (t442 < (y439.length : Int)) = true := decide_eq_true c4
 clear c4
 obtain ⟨⟨t445, t446⟩, A5, H⟩ := sqD H
 try dsimp only at H
 have HC6 := Aside0.mk H
 clear H
 go_enter Tryz.func68, Tryz.ntmps68
 try go_wp2_with (first | ((with_reducible refine gate_dst (N := 2) rfl ?_); refine sqBox (N := 2) (cs := #[.int .i64 0, .string (⟨#[]⟩ : ByteArray)]) (t := 38) ?_; intro gb438 hg w7 BK438 hb; replace HB := Aside0.mk (below_step (Z36 HI0) hb); have GW438 := Aside0.mk ((Z110 : w.heap.size ≤ gb438)); have GE438 := Aside0.mk ((Nat.le_trans HW0.out (Z110 : w.heap.size ≤ gb438) : w0.heap.size ≤ gb438)); replace HK := Aside0.mk (KeepBut.trans Z35 (KeepBut.of_below hb g none) (.inl rfl)); have NB0_438 := Aside0.mk ((Z37 HI0 : g ≠ gb438)); have NB438_0 := Aside0.mk ((Z38 HI0 : gb438 ≠ g)); replace HI0 := Aside0.mk (IsS131.below (Z34 HI0) hb); clear hb hg))
 have pi444 : (0 ≤ (t442 : Int)) = True := eq_true (of_decide_eq_true Z2)
 have qi444 : (t442 < (y439.length : Int)) = True := eq_true (of_decide_eq_true Z2)
 replace BK438 := Aside0.mk (blk_drew BK438.out)
 replace HI0 := Aside0.mk (IsS131.drew HI0.out)
 replace HK := Aside0.mk (keep_drew HK.out)
 replace HB := Aside0.mk (below_drew1 HB.out)
 refine start_ (n := 13) (S := fun w' => True) (ds := []) #[false, false, false, false, false, false, false, false, false, false, false, false, false] (by kernel_rfl) rfl rfl trivial (fun hHeld => ?_); refine with_tabW spec_l20Deed.tab1 spec_l20Deed.bits1 (fun HT_ HW_ => ?_)
 generalize w7.drew = w8 at BK438 HI0 HK HB hHeld ⊢
 refine sqP (i := 1) (N := some 5) (h := ?_)
 refine sqP (i := 5) (N := some 9) (h := ?_)
 refine join_ (σ := Value × Addr × Nat) 1 #[true, true, true, true, true, true, true, true, true, true, true, true, false] (fun s_ => [(4, s_.1), (6, .int .i64 t442), (8, .int .i64 (rd y439 t442)), (10, .int .i64 t445), (3, .pointer (some ⟨s_.2.2, 0, none⟩)), (7, .pointer (some (s_.2.1.add (t442).toNat))), (11, .int .i64 (wrap64 (Int.tdiv t445 59))), (12, .int .i64 (wrap64 ((wrap64 (Int.tdiv t445 59)) * 5))), (13, .int .i64 (wrap64 ((rd y439 t442) + (wrap64 ((wrap64 (Int.tdiv t445 59)) * 5))))), (14, .agg #[.int .i64 (wrap64 ((rd y439 t442) + (wrap64 ((wrap64 (Int.tdiv t445 59)) * 5)))), .string (⟨#[]⟩ : ByteArray)])]) (fun s_ w' => (Kd.R (Kd.int .i64) 3 w' w.heap.size (fun _ => True) s_.1 y439) ∧ (∃ c_, (s_.1 : Value) = .slice (some s_.2.1) y439.length c_) ∧ (w'.heap[gb438]? = some (.cells #[.int .i64 0, .string (⟨#[]⟩ : ByteArray)] 38 (0, 0))) ∧ (w'.heap[s_.2.2]? = some (.cells #[.int .i64 0, .string (⟨#[]⟩ : ByteArray)] 38 (0, 0))) ∧ (w.heap.size ≤ s_.2.2) ∧ (w0.heap.size ≤ s_.2.2) ∧ (g ≠ s_.2.2) ∧ (s_.2.2 ≠ g) ∧ (gb438 ≠ s_.2.2) ∧ (s_.2.2 ≠ gb438) ∧ (IsS131 w0 w' g s0_0 t446) ∧ (KeepBut w w' g none) ∧ (Below w0.heap.size w0 w')) ?_ ?_
 rotate_left
 ·intro hJ0_2_4_6_11
  refine join_ (σ := Value × Addr) 2 #[true, true, true, true, true, true, true, true, true, true, true, false, false] (fun s_ => [(4, s_.1), (6, .int .i64 t442), (8, .int .i64 (rd y439 t442)), (10, .int .i64 t445), (7, .pointer (some (s_.2.add (t442).toNat))), (11, .int .i64 (wrap64 (Int.tdiv t445 59))), (12, .int .i64 (wrap64 ((wrap64 (Int.tdiv t445 59)) * 5))), (13, .int .i64 (wrap64 ((rd y439 t442) + (wrap64 ((wrap64 (Int.tdiv t445 59)) * 5))))), (14, .agg #[.int .i64 (wrap64 ((rd y439 t442) + (wrap64 ((wrap64 (Int.tdiv t445 59)) * 5)))), .string (⟨#[]⟩ : ByteArray)])]) (fun s_ w' => (Kd.R (Kd.int .i64) 3 w' w.heap.size (fun _ => True) s_.1 y439) ∧ (∃ c_, (s_.1 : Value) = .slice (some s_.2) y439.length c_) ∧ (w'.heap[gb438]? = some (.cells #[.int .i64 0, .string (⟨#[]⟩ : ByteArray)] 38 (0, 0))) ∧ (IsS131 w0 w' g s0_0 t446) ∧ (KeepBut w w' g none) ∧ (Below w0.heap.size w0 w')) ?_ ?_
  rotate_left
  ·intro hJ0_2_4_6
   refine join_ (σ := Value × Addr × Nat) 6 #[true, true, true, true, true, true, false, false, false, false, false, true, false] (fun s_ => [(4, s_.1), (6, .int .i64 t442), (8, .int .i64 (rd y439 t442)), (3, .pointer (some ⟨s_.2.2, 0, none⟩)), (7, .pointer (some (s_.2.1.add (t442).toNat)))]) (fun s_ w' => (Kd.R (Kd.int .i64) 3 w' w.heap.size (fun _ => True) s_.1 y439) ∧ (∃ c_, (s_.1 : Value) = .slice (some s_.2.1) y439.length c_) ∧ (w'.heap[gb438]? = some (.cells #[.int .i64 0, .string (⟨#[]⟩ : ByteArray)] 38 (0, 0))) ∧ (w'.heap[s_.2.2]? = some (.cells #[.int .i64 0, .string (⟨#[]⟩ : ByteArray)] 38 (0, 0))) ∧ (w.heap.size ≤ s_.2.2) ∧ (w0.heap.size ≤ s_.2.2) ∧ (g ≠ s_.2.2) ∧ (s_.2.2 ≠ g) ∧ (gb438 ≠ s_.2.2) ∧ (s_.2.2 ≠ gb438) ∧ (IsS131 w0 w' g s0_0 t443) ∧ (KeepBut w w' g none) ∧ (Below w0.heap.size w0 w')) ?_ ?_
   rotate_left
   ·intro hJ0_2_4_11
    refine join_ (σ := Value × Addr × Nat) 4 #[true, true, true, true, false, true, true, true, true, false, false, true, false] (fun s_ => [(4, s_.1), (6, .int .i64 t442), (10, .int .i64 t445), (3, .pointer (some ⟨s_.2.2, 0, none⟩)), (7, .pointer (some (s_.2.1.add (t442).toNat))), (11, .int .i64 (wrap64 (Int.tdiv t445 59))), (12, .int .i64 (wrap64 ((wrap64 (Int.tdiv t445 59)) * 5)))]) (fun s_ w' => (Kd.R (Kd.int .i64) 3 w' w.heap.size (fun _ => True) s_.1 y439) ∧ (∃ c_, (s_.1 : Value) = .slice (some s_.2.1) y439.length c_) ∧ (w'.heap[gb438]? = some (.cells #[.int .i64 0, .string (⟨#[]⟩ : ByteArray)] 38 (0, 0))) ∧ (w'.heap[s_.2.2]? = some (.cells #[.int .i64 0, .string (⟨#[]⟩ : ByteArray)] 38 (0, 0))) ∧ (w.heap.size ≤ s_.2.2) ∧ (w0.heap.size ≤ s_.2.2) ∧ (g ≠ s_.2.2) ∧ (s_.2.2 ≠ g) ∧ (gb438 ≠ s_.2.2) ∧ (s_.2.2 ≠ gb438) ∧ (IsS131 w0 w' g s0_0 t446) ∧ (KeepBut w w' g none) ∧ (Below w0.heap.size w0 w')) ?_ ?_
    rotate_left
    ·intro hJ0_2_6_11
     refine join_ (σ := Value × Addr) 7 #[true, true, true, true, true, true, false, false, false, false, false, false, false] (fun s_ => [(4, s_.1), (6, .int .i64 t442), (8, .int .i64 (rd y439 t442)), (7, .pointer (some (s_.2.add (t442).toNat)))]) (fun s_ w' => (Kd.R (Kd.int .i64) 3 w' w.heap.size (fun _ => True) s_.1 y439) ∧ (∃ c_, (s_.1 : Value) = .slice (some s_.2) y439.length c_) ∧ (w'.heap[gb438]? = some (.cells #[.int .i64 0, .string (⟨#[]⟩ : ByteArray)] 38 (0, 0))) ∧ (IsS131 w0 w' g s0_0 t443) ∧ (KeepBut w w' g none) ∧ (Below w0.heap.size w0 w')) ?_ ?_
     rotate_left
     ·intro hJ0_2_4
      refine join_ (σ := Value × Addr) 5 #[true, true, true, true, false, true, true, true, true, false, false, false, false] (fun s_ => [(4, s_.1), (6, .int .i64 t442), (10, .int .i64 t445), (7, .pointer (some (s_.2.add (t442).toNat))), (11, .int .i64 (wrap64 (Int.tdiv t445 59))), (12, .int .i64 (wrap64 ((wrap64 (Int.tdiv t445 59)) * 5)))]) (fun s_ w' => (Kd.R (Kd.int .i64) 3 w' w.heap.size (fun _ => True) s_.1 y439) ∧ (∃ c_, (s_.1 : Value) = .slice (some s_.2) y439.length c_) ∧ (w'.heap[gb438]? = some (.cells #[.int .i64 0, .string (⟨#[]⟩ : ByteArray)] 38 (0, 0))) ∧ (IsS131 w0 w' g s0_0 t446) ∧ (KeepBut w w' g none) ∧ (Below w0.heap.size w0 w')) ?_ ?_
      rotate_left
      ·intro hJ0_2_6
       refine join_ (σ := Value × Addr × Nat) 7 #[true, true, true, true, false, true, false, false, false, false, false, true, false] (fun s_ => [(4, s_.1), (6, .int .i64 t442), (3, .pointer (some ⟨s_.2.2, 0, none⟩)), (7, .pointer (some (s_.2.1.add (t442).toNat)))]) (fun s_ w' => (Kd.R (Kd.int .i64) 3 w' w.heap.size (fun _ => True) s_.1 y439) ∧ (∃ c_, (s_.1 : Value) = .slice (some s_.2.1) y439.length c_) ∧ (w'.heap[gb438]? = some (.cells #[.int .i64 0, .string (⟨#[]⟩ : ByteArray)] 38 (0, 0))) ∧ (w'.heap[s_.2.2]? = some (.cells #[.int .i64 0, .string (⟨#[]⟩ : ByteArray)] 38 (0, 0))) ∧ (w.heap.size ≤ s_.2.2) ∧ (w0.heap.size ≤ s_.2.2) ∧ (g ≠ s_.2.2) ∧ (s_.2.2 ≠ g) ∧ (gb438 ≠ s_.2.2) ∧ (s_.2.2 ≠ gb438) ∧ (IsS131 w0 w' g s0_0 t443) ∧ (KeepBut w w' g none) ∧ (Below w0.heap.size w0 w')) ?_ ?_
       rotate_left
       ·intro hJ0_2_11
        refine join_ (σ := Nat) 6 #[false, true, true, false, false, true, true, true, true, false, false, true, false] (fun s_ => [(6, .int .i64 t442), (10, .int .i64 t445), (3, .pointer (some ⟨s_, 0, none⟩)), (11, .int .i64 (wrap64 (Int.tdiv t445 59))), (12, .int .i64 (wrap64 ((wrap64 (Int.tdiv t445 59)) * 5)))]) (fun s_ w' => (w'.heap[gb438]? = some (.cells #[.int .i64 0, .string (⟨#[]⟩ : ByteArray)] 38 (0, 0))) ∧ (w'.heap[s_]? = some (.cells #[.int .i64 0, .string (⟨#[]⟩ : ByteArray)] 38 (0, 0))) ∧ (w.heap.size ≤ s_) ∧ (w0.heap.size ≤ s_) ∧ (g ≠ s_) ∧ (s_ ≠ g) ∧ (gb438 ≠ s_) ∧ (s_ ≠ gb438) ∧ (IsS131 w0 w' g s0_0 t446) ∧ (KeepBut w w' g none) ∧ (Below w0.heap.size w0 w')) ?_ ?_
        rotate_left
        ·intro hJ2_6_11
         refine join_ (σ := Value × Addr) 8 #[true, true, true, true, false, true, false, false, false, false, false, false, false] (fun s_ => [(4, s_.1), (6, .int .i64 t442), (7, .pointer (some (s_.2.add (t442).toNat)))]) (fun s_ w' => (Kd.R (Kd.int .i64) 3 w' w.heap.size (fun _ => True) s_.1 y439) ∧ (∃ c_, (s_.1 : Value) = .slice (some s_.2) y439.length c_) ∧ (w'.heap[gb438]? = some (.cells #[.int .i64 0, .string (⟨#[]⟩ : ByteArray)] 38 (0, 0))) ∧ (IsS131 w0 w' g s0_0 t443) ∧ (KeepBut w w' g none) ∧ (Below w0.heap.size w0 w')) ?_ ?_
         rotate_left
         ·intro hJ0_2
          refine join_ (σ := Value × Addr × Nat) 9 #[true, true, false, false, false, true, false, false, false, false, false, true, false] (fun s_ => [(4, s_.1), (3, .pointer (some ⟨s_.2.2, 0, none⟩))]) (fun s_ w' => (Kd.R (Kd.int .i64) 3 w' w.heap.size (fun _ => True) s_.1 y439) ∧ (∃ c_, (s_.1 : Value) = .slice (some s_.2.1) y439.length c_) ∧ (w'.heap[gb438]? = some (.cells #[.int .i64 0, .string (⟨#[]⟩ : ByteArray)] 38 (0, 0))) ∧ (w'.heap[s_.2.2]? = some (.cells #[.int .i64 0, .string (⟨#[]⟩ : ByteArray)] 38 (0, 0))) ∧ (w.heap.size ≤ s_.2.2) ∧ (w0.heap.size ≤ s_.2.2) ∧ (g ≠ s_.2.2) ∧ (s_.2.2 ≠ g) ∧ (gb438 ≠ s_.2.2) ∧ (s_.2.2 ≠ gb438) ∧ (IsS131 w0 w' g s0_0 s0_1) ∧ (KeepBut w w' g none) ∧ (Below w0.heap.size w0 w')) ?_ ?_
          rotate_left
          ·intro hJ0_11
           refine join_ (σ := Unit) 7 #[false, true, true, false, false, true, true, true, true, false, false, false, false] (fun s_ => [(6, .int .i64 t442), (10, .int .i64 t445), (11, .int .i64 (wrap64 (Int.tdiv t445 59))), (12, .int .i64 (wrap64 ((wrap64 (Int.tdiv t445 59)) * 5)))]) (fun s_ w' => (w'.heap[gb438]? = some (.cells #[.int .i64 0, .string (⟨#[]⟩ : ByteArray)] 38 (0, 0))) ∧ (IsS131 w0 w' g s0_0 t446) ∧ (KeepBut w w' g none) ∧ (Below w0.heap.size w0 w')) ?_ ?_
           rotate_left
           ·intro hJ2_6
            refine join_ (σ := Nat) 9 #[false, true, true, false, false, true, false, false, false, false, false, true, false] (fun s_ => [(6, .int .i64 t442), (3, .pointer (some ⟨s_, 0, none⟩))]) (fun s_ w' => (w'.heap[gb438]? = some (.cells #[.int .i64 0, .string (⟨#[]⟩ : ByteArray)] 38 (0, 0))) ∧ (w'.heap[s_]? = some (.cells #[.int .i64 0, .string (⟨#[]⟩ : ByteArray)] 38 (0, 0))) ∧ (w.heap.size ≤ s_) ∧ (w0.heap.size ≤ s_) ∧ (g ≠ s_) ∧ (s_ ≠ g) ∧ (gb438 ≠ s_) ∧ (s_ ≠ gb438) ∧ (IsS131 w0 w' g s0_0 t443) ∧ (KeepBut w w' g none) ∧ (Below w0.heap.size w0 w')) ?_ ?_
            rotate_left
            ·intro hJ2_11
             refine join_ (σ := Value × Addr) 10 #[true, true, false, false, false, true, false, false, false, false, false, false, false] (fun s_ => [(4, s_.1)]) (fun s_ w' => (Kd.R (Kd.int .i64) 3 w' w.heap.size (fun _ => True) s_.1 y439) ∧ (∃ c_, (s_.1 : Value) = .slice (some s_.2) y439.length c_) ∧ (w'.heap[gb438]? = some (.cells #[.int .i64 0, .string (⟨#[]⟩ : ByteArray)] 38 (0, 0))) ∧ (IsS131 w0 w' g s0_0 s0_1) ∧ (KeepBut w w' g none) ∧ (Below w0.heap.size w0 w')) ?_ ?_
             rotate_left
             ·intro hJ0
              refine join_ (σ := Unit) 10 #[false, true, true, false, false, true, false, false, false, false, false, false, false] (fun s_ => [(6, .int .i64 t442)]) (fun s_ w' => (w'.heap[gb438]? = some (.cells #[.int .i64 0, .string (⟨#[]⟩ : ByteArray)] 38 (0, 0))) ∧ (IsS131 w0 w' g s0_0 t443) ∧ (KeepBut w w' g none) ∧ (Below w0.heap.size w0 w')) ?_ ?_
              rotate_left
              ·intro hJ2
               refine join_ (σ := Nat) 10 #[false, true, false, false, false, true, false, false, false, false, false, true, false] (fun s_ => [(3, .pointer (some ⟨s_, 0, none⟩))]) (fun s_ w' => (w'.heap[gb438]? = some (.cells #[.int .i64 0, .string (⟨#[]⟩ : ByteArray)] 38 (0, 0))) ∧ (w'.heap[s_]? = some (.cells #[.int .i64 0, .string (⟨#[]⟩ : ByteArray)] 38 (0, 0))) ∧ (w.heap.size ≤ s_) ∧ (w0.heap.size ≤ s_) ∧ (g ≠ s_) ∧ (s_ ≠ g) ∧ (gb438 ≠ s_) ∧ (s_ ≠ gb438) ∧ (IsS131 w0 w' g s0_0 s0_1) ∧ (KeepBut w w' g none) ∧ (Below w0.heap.size w0 w')) ?_ ?_
               rotate_left
               ·intro hJ11
                refine three_ (i := 0) (j := 2) (k := 11) (Ni := some 4) (Nj := some 6) (Nk := some 3) #[true, true, false, false, false, true, false, false, false, false, false, false, false] #[false, true, true, false, false, true, false, false, false, false, false, false, false] #[false, true, false, false, false, true, false, false, false, false, false, true, false] rfl rfl rfl rfl rfl rfl (three_of HT_.out (by kernel_rfl)) (by decide) (by decide) (by decide) (fun K hK => ?_) (fun K hK => ?_) (fun K hK => ?_)
                ·skip
                 refine Kd.R_lit_step (Kd.int .i64) _ 3 ?hg (N := 4) ?hd (xs := ([0, 0, 0, 1, 1, 2, 3, 4] : List Int)) (inner := [.int .i64 0, .int .i64 0, .int .i64 0, .int .i64 1, .int .i64 1, .int .i64 2, .int .i64 3, .int .i64 4]) (ok := fun _ => True) (okp := fun _ => True) ?hr ?hp (fun _ hk => hk) trivial (Below.refl _ _) (Nat.le_refl _) (by simp) ?_; (case hd => rfl); (case hg => rfl); (case hr => exact Z7); (case hp => exact Z99)
                 intro v440 w9 ho10 hb hg_ hnew_
                 clear hg_ hnew_
                 (first | rw [← Ny439.out] at ho10 | (simp only [Int.reduceToNat] at ho10; rw [← Ny439.out] at ho10))
                 have HO441 := Aside0.mk (Kd.R_lower ho10 (keep_size (w := w) (g := g) (row := none) (Z39 GW438)))
                 replace BK438 := sqT BK438 hb
                 replace HK := Aside0.mk (KeepBut.trans (Z39 GW438) (KeepBut.of_below hb g none) (.inl rfl))
                 replace HB := Aside0.mk (below_step (Z40 HI0 GE438) hb)
                 replace HI0 := Aside0.mk (IsS131.below (Z41 HI0 NB0_438) hb)
                 clear hb ho10
                 obtain ⟨Ao11, co11, eo11⟩ := Kd.R_slice HO441.out
                 subst eo11
                 obtain ⟨ado11, fo11, _⟩ := Kd.at_int (Kd.R_reads' HO441.out).2.2 0 (by decide) (by rw [Ny439.out]; simp)
                 cases fo11
                 refine hK.out _ _ trivial (fun hHeld => ?_)
                 clear hK K
                 refine sqN (some 4) ?_
                 exact norm_ Z100 (hJ0 (.slice (some ado11) y439.length co11, ado11) _ ⟨(sqR HO441), ⟨_, rfl⟩, (sqK BK438), (Z41 HI0 NB0_438), (Z39 GW438), (Z40 HI0 GE438)⟩)
                ·skip
                 refine goes_ Tryz.func82 (by kernel_rfl) rfl #[.pointer (some ⟨g, 0, none⟩), .int .i64 8] (by rfl) rfl rfl sqA ?_
                 with_reducible refine (spec_l20Rd_pick.calls k g s0_0 s0_1 8 t442 t443 w0 _ ?side1 ?side2 A2.out).mono ?_
                 (case side1 => exact Z41 HI0 NB0_438)
                 (case side2 => exact Z40 HI0 GE438)
                 rintro e w9 ⟨rfl, hi, hb, hk⟩
                 refine ⟨_, rfl, ?_⟩
                 replace BK438 := Aside0.mk (KeepBut.blk hk (g' := gb438) (o := .cells #[.int .i64 0, .string (⟨#[]⟩ : ByteArray)] 38 (0, 0)) (sqK BK438) NB438_0.out (by simp))
                 replace HK := Aside0.mk (KeepBut.trans (Z39 GW438) hk (.inl rfl))
                 replace HB := Aside0.mk (hb)
                 replace HI0 := Aside0.mk (hi)
                 (try clear hb)
                 (try clear hb2)
                 (try clear hk)
                 (try clear hi)
                 refine hK.out _ _ trivial (fun hHeld => ?_)
                 clear hK K
                 refine sqN (some 6) ?_
                 exact norm_ Z100 (hJ2 () _ ⟨(sqK BK438), (Z41 HI0 NB0_438), (Z39 GW438), (Z40 HI0 GE438)⟩)
                ·skip
                 refine box_step ?hg (N := 3) ?hd (cs := #[.int .i64 0, .string (⟨#[]⟩ : ByteArray)]) (t := 38) ?hr ?_; (case hd => rfl); (case hg => rfl); (case hr => exact Z7)
                 intro gb447 hg w9 hbox hb
                 replace HB := Aside0.mk (below_step (Z40 HI0 GE438) hb)
                 have BK447 := Aside0.mk (hbox)
                 have GW447 := Aside0.mk ((Z111 GW438 : w.heap.size ≤ gb447))
                 have GE447 := Aside0.mk ((Nat.le_trans HW0.out (Z111 GW438 : w.heap.size ≤ gb447) : w0.heap.size ≤ gb447))
                 replace HK := Aside0.mk (KeepBut.trans (Z39 GW438) (KeepBut.of_below hb g none) (.inl rfl))
                 obtain ⟨NB438_447, NB447_438⟩ := sqM hg BK438
                 replace BK438 := sqT BK438 hb
                 have NB0_447 := Aside0.mk ((Z101 HI0 NB0_438 : g ≠ gb447))
                 have NB447_0 := Aside0.mk ((Z102 HI0 NB0_438 : gb447 ≠ g))
                 replace HI0 := Aside0.mk (IsS131.below (Z41 HI0 NB0_438) hb)
                 clear hb hbox hg
                 refine hK.out _ _ trivial (fun hHeld => ?_)
                 clear hK K
                 refine sqN (some 3) ?_
                 exact norm_ Z100 (hJ11 (gb447) _ ⟨(sqK BK438), (sqK BK447), GW447.out, GE447.out, NB0_447.out, NB447_0.out, NB438_447.out, NB447_438.out, (Z42 HI0 NB0_438 NB0_447), (Z43 GW438 GW447), (Z44 HI0 GE438 GE447)⟩)
               ·skip
                rintro gb447 w10 ⟨h0_, h1_, h2_, h3_, h4_, h5_, h6_, h7_, h8_, h9_, h10_⟩
                replace BK438 := Aside0.mk h0_
                replace BK447 := Aside0.mk h1_
                replace GW447 := Aside0.mk h2_
                replace GE447 := Aside0.mk h3_
                replace NB0_447 := Aside0.mk h4_
                replace NB447_0 := Aside0.mk h5_
                replace NB438_447 := Aside0.mk h6_
                replace NB447_438 := Aside0.mk h7_
                replace HI0 := Aside0.mk h8_
                replace HK := Aside0.mk h9_
                replace HB := Aside0.mk h10_
                clear h0_ h1_ h2_ h3_ h4_ h5_ h6_ h7_ h8_ h9_ h10_
                have hHeld := trivial
                refine norm_ (a' := ?_) ?_ ?_
                rotate_left
                ·simp only [putAll, Act.put, List.setIfInBounds_toArray, List.set_cons_zero, List.set_cons_succ]
                 rfl
                refine two_ (i := 0) (j := 2) (Ni := some 4) (Nj := some 6) #[true, true, false, false, false, true, false, false, false, false, false, true, false] #[false, true, true, false, false, true, false, false, false, false, false, true, false] rfl rfl rfl rfl (two_of HT_.out (by kernel_rfl)) (by decide) (by decide) (fun K hK => ?_) (fun K hK => ?_)
                ·skip
                 refine Kd.R_lit_step (Kd.int .i64) _ 3 ?hg (N := 4) ?hd (xs := ([0, 0, 0, 1, 1, 2, 3, 4] : List Int)) (inner := [.int .i64 0, .int .i64 0, .int .i64 0, .int .i64 1, .int .i64 1, .int .i64 2, .int .i64 3, .int .i64 4]) (ok := fun _ => True) (okp := fun _ => True) ?hr ?hp (fun _ hk => hk) trivial (Below.refl _ _) (Nat.le_refl _) (by simp) ?_; (case hd => rfl); (case hg => rfl); (case hr => exact Z7); (case hp => exact Z99)
                 intro v440 w11 ho12 hb hg_ hnew_
                 clear hg_ hnew_
                 (first | rw [← Ny439.out] at ho12 | (simp only [Int.reduceToNat] at ho12; rw [← Ny439.out] at ho12))
                 have HO441 := Aside0.mk (Kd.R_lower ho12 (keep_size (w := w) (g := g) (row := none) (Z43 GW438 GW447)))
                 replace BK438 := sqT BK438 hb
                 replace BK447 := sqT BK447 hb
                 replace HK := Aside0.mk (KeepBut.trans (Z43 GW438 GW447) (KeepBut.of_below hb g none) (.inl rfl))
                 replace HB := Aside0.mk (below_step (Z44 HI0 GE438 GE447) hb)
                 replace HI0 := Aside0.mk (IsS131.below (Z42 HI0 NB0_438 NB0_447) hb)
                 clear hb ho12
                 obtain ⟨Ao13, co13, eo13⟩ := Kd.R_slice HO441.out
                 subst eo13
                 obtain ⟨ado13, fo13, _⟩ := Kd.at_int (Kd.R_reads' HO441.out).2.2 0 (by decide) (by rw [Ny439.out]; simp)
                 cases fo13
                 refine hK.out _ _ trivial (fun hHeld => ?_)
                 clear hK K
                 refine sqN (some 4) ?_
                 exact norm_ Z100 (hJ0_11 (.slice (some ado13) y439.length co13, ado13, gb447) _ ⟨(sqR HO441), ⟨_, rfl⟩, (sqK BK438), (sqK BK447), GW447.out, GE447.out, NB0_447.out, NB447_0.out, NB438_447.out, NB447_438.out, (Z42 HI0 NB0_438 NB0_447), (Z43 GW438 GW447), (Z44 HI0 GE438 GE447)⟩)
                ·skip
                 refine goes_ Tryz.func82 (by kernel_rfl) rfl #[.pointer (some ⟨g, 0, none⟩), .int .i64 8] (by rfl) rfl rfl sqA ?_
                 with_reducible refine (spec_l20Rd_pick.calls k g s0_0 s0_1 8 t442 t443 w0 _ ?side1 ?side2 A2.out).mono ?_
                 (case side1 => exact Z42 HI0 NB0_438 NB0_447)
                 (case side2 => exact Z44 HI0 GE438 GE447)
                 rintro e w11 ⟨rfl, hi, hb, hk⟩
                 refine ⟨_, rfl, ?_⟩
                 replace BK438 := Aside0.mk (KeepBut.blk hk (g' := gb438) (o := .cells #[.int .i64 0, .string (⟨#[]⟩ : ByteArray)] 38 (0, 0)) (sqK BK438) NB438_0.out (by simp))
                 replace BK447 := Aside0.mk (KeepBut.blk hk (g' := gb447) (o := .cells #[.int .i64 0, .string (⟨#[]⟩ : ByteArray)] 38 (0, 0)) (sqK BK447) NB447_0.out (by simp))
                 replace HK := Aside0.mk (KeepBut.trans (Z43 GW438 GW447) hk (.inl rfl))
                 replace HB := Aside0.mk (hb)
                 replace HI0 := Aside0.mk (hi)
                 (try clear hb)
                 (try clear hb2)
                 (try clear hk)
                 (try clear hi)
                 refine hK.out _ _ trivial (fun hHeld => ?_)
                 clear hK K
                 refine sqN (some 6) ?_
                 exact norm_ Z100 (hJ2_11 (gb447) _ ⟨(sqK BK438), (sqK BK447), GW447.out, GE447.out, NB0_447.out, NB447_0.out, NB438_447.out, NB447_438.out, (Z42 HI0 NB0_438 NB0_447), (Z43 GW438 GW447), (Z44 HI0 GE438 GE447)⟩)
              ·skip
               rintro _ w10 ⟨h0_, h1_, h2_, h3_⟩
               replace BK438 := Aside0.mk h0_
               replace HI0 := Aside0.mk h1_
               replace HK := Aside0.mk h2_
               replace HB := Aside0.mk h3_
               clear h0_ h1_ h2_ h3_
               have hHeld := trivial
               refine norm_ (a' := ?_) ?_ ?_
               rotate_left
               ·simp only [putAll, Act.put, List.setIfInBounds_toArray, List.set_cons_zero, List.set_cons_succ]
                rfl
               refine three_ (i := 0) (j := 6) (k := 11) (Ni := some 4) (Nj := some 10) (Nk := some 3) #[true, true, true, false, false, true, false, false, false, false, false, false, false] #[false, true, true, false, false, true, true, false, false, false, false, false, false] #[false, true, true, false, false, true, false, false, false, false, false, true, false] rfl rfl rfl rfl rfl rfl (three_of HT_.out (by kernel_rfl)) (by decide) (by decide) (by decide) (fun K hK => ?_) (fun K hK => ?_) (fun K hK => ?_)
               ·skip
                refine Kd.R_lit_step (Kd.int .i64) _ 3 ?hg (N := 4) ?hd (xs := ([0, 0, 0, 1, 1, 2, 3, 4] : List Int)) (inner := [.int .i64 0, .int .i64 0, .int .i64 0, .int .i64 1, .int .i64 1, .int .i64 2, .int .i64 3, .int .i64 4]) (ok := fun _ => True) (okp := fun _ => True) ?hr ?hp (fun _ hk => hk) trivial (Below.refl _ _) (Nat.le_refl _) (by simp) ?_; (case hd => rfl); (case hg => rfl); (case hr => exact Z7); (case hp => exact Z99)
                intro v440 w11 ho12 hb hg_ hnew_
                clear hg_ hnew_
                (first | rw [← Ny439.out] at ho12 | (simp only [Int.reduceToNat] at ho12; rw [← Ny439.out] at ho12))
                have HO441 := Aside0.mk (Kd.R_lower ho12 (keep_size (w := w) (g := g) (row := none) (Z39 GW438)))
                replace BK438 := sqT BK438 hb
                replace HK := Aside0.mk (KeepBut.trans (Z39 GW438) (KeepBut.of_below hb g none) (.inl rfl))
                replace HB := Aside0.mk (below_step (Z40 HI0 GE438) hb)
                replace HI0 := Aside0.mk (IsS131.below (Z41 HI0 NB0_438) hb)
                clear hb ho12
                obtain ⟨Ao13, co13, eo13⟩ := Kd.R_slice HO441.out
                subst eo13
                obtain ⟨ado13, fo13, _⟩ := Kd.at_int (Kd.R_reads' HO441.out).2.2 0 (by decide) (by rw [Ny439.out]; simp)
                cases fo13
                refine hK.out _ _ trivial (fun hHeld => ?_)
                clear hK K
                refine sqN (some 4) ?_
                refine sqP (i := 3) (N := some 7) (h := ?_)
                exact norm_ Z100 (hJ0_2 (.slice (some ado13) y439.length co13, ado13) _ ⟨(sqR HO441), ⟨_, rfl⟩, (sqK BK438), (Z41 HI0 NB0_438), (Z39 GW438), (Z40 HI0 GE438)⟩)
               ·skip
                refine goes_ Tryz.func82 (by kernel_rfl) rfl #[.pointer (some ⟨g, 0, none⟩), .int .i64 60] (by rfl) rfl rfl sqA ?_
                with_reducible refine (spec_l20Rd_pick.calls k g s0_0 t443 60 t445 t446 w0 _ ?side1 ?side2 A5.out).mono ?_
                (case side1 => exact Z41 HI0 NB0_438)
                (case side2 => exact Z40 HI0 GE438)
                rintro e w11 ⟨rfl, hi, hb, hk⟩
                refine ⟨_, rfl, ?_⟩
                replace BK438 := Aside0.mk (KeepBut.blk hk (g' := gb438) (o := .cells #[.int .i64 0, .string (⟨#[]⟩ : ByteArray)] 38 (0, 0)) (sqK BK438) NB438_0.out (by simp))
                replace HK := Aside0.mk (KeepBut.trans (Z39 GW438) hk (.inl rfl))
                replace HB := Aside0.mk (hb)
                replace HI0 := Aside0.mk (hi)
                (try clear hb)
                (try clear hb2)
                (try clear hk)
                (try clear hi)
                refine hK.out _ _ trivial (fun hHeld => ?_)
                clear hK K
                refine sqN (some 10) ?_
                refine sqP (i := 7) (N := some 11) (h := ?_)
                refine sqP (i := 8) (N := some 12) (h := ?_)
                exact norm_ Z100 (hJ2_6 () _ ⟨(sqK BK438), (Z41 HI0 NB0_438), (Z39 GW438), (Z40 HI0 GE438)⟩)
               ·skip
                refine box_step ?hg (N := 3) ?hd (cs := #[.int .i64 0, .string (⟨#[]⟩ : ByteArray)]) (t := 38) ?hr ?_; (case hd => rfl); (case hg => rfl); (case hr => exact Z7)
                intro gb447 hg w11 hbox hb
                replace HB := Aside0.mk (below_step (Z40 HI0 GE438) hb)
                have BK447 := Aside0.mk (hbox)
                have GW447 := Aside0.mk ((Z111 GW438 : w.heap.size ≤ gb447))
                have GE447 := Aside0.mk ((Nat.le_trans HW0.out (Z111 GW438 : w.heap.size ≤ gb447) : w0.heap.size ≤ gb447))
                replace HK := Aside0.mk (KeepBut.trans (Z39 GW438) (KeepBut.of_below hb g none) (.inl rfl))
                obtain ⟨NB438_447, NB447_438⟩ := sqM hg BK438
                replace BK438 := sqT BK438 hb
                have NB0_447 := Aside0.mk ((Z103 HI0 NB0_438 : g ≠ gb447))
                have NB447_0 := Aside0.mk ((Z104 HI0 NB0_438 : gb447 ≠ g))
                replace HI0 := Aside0.mk (IsS131.below (Z41 HI0 NB0_438) hb)
                clear hb hbox hg
                refine hK.out _ _ trivial (fun hHeld => ?_)
                clear hK K
                refine sqN (some 3) ?_
                exact norm_ Z100 (hJ2_11 (gb447) _ ⟨(sqK BK438), (sqK BK447), GW447.out, GE447.out, NB0_447.out, NB447_0.out, NB438_447.out, NB447_438.out, (Z42 HI0 NB0_438 NB0_447), (Z43 GW438 GW447), (Z44 HI0 GE438 GE447)⟩)
             ·skip
              rintro ⟨v440, adz_v440⟩ w12 ⟨h0_, h1_, h2_, h3_, h4_, h5_⟩
              replace HO441 : Aside0 (Kd.R (Kd.int .i64) 3 w12 w.heap.size (fun _ => True) v440 y439) := ⟨h0_⟩
              replace HA_HO441 : Aside0 (∃ c_, (v440 : Value) = .slice (some adz_v440) y439.length c_) := ⟨h1_⟩
              replace BK438 : Aside0 (w12.heap[gb438]? = some (.cells #[.int .i64 0, .string (⟨#[]⟩ : ByteArray)] 38 (0, 0))) := ⟨h2_⟩
              replace HI0 : Aside0 (IsS131 w0 w12 g s0_0 s0_1) := ⟨h3_⟩
              replace HK : Aside0 (KeepBut w w12 g none) := ⟨h4_⟩
              replace HB : Aside0 (Below w0.heap.size w0 w12) := ⟨h5_⟩
              clear h0_ h1_ h2_ h3_ h4_ h5_
              have hHeld := trivial
              obtain ⟨co13, eo13⟩ := HA_HO441.out
              clear HA_HO441
              subst eo13
              refine norm_ (a' := ?_) ?_ ?_
              rotate_left
              ·simp only [putAll, Act.put, List.setIfInBounds_toArray, List.set_cons_zero, List.set_cons_succ]
               rfl
              refine two_ (i := 2) (j := 11) (Ni := some 6) (Nj := some 3) #[true, true, true, false, false, true, false, false, false, false, false, false, false] #[true, true, false, false, false, true, false, false, false, false, false, true, false] rfl rfl rfl rfl (two_of HT_.out (by kernel_rfl)) (by decide) (by decide) (fun K hK => ?_) (fun K hK => ?_)
              ·skip
               refine goes_ Tryz.func82 (by kernel_rfl) rfl #[.pointer (some ⟨g, 0, none⟩), .int .i64 8] (by rfl) rfl rfl sqA ?_
               with_reducible refine (spec_l20Rd_pick.calls k g s0_0 s0_1 8 t442 t443 w0 _ ?side1 ?side2 A2.out).mono ?_
               (case side1 => exact Z41 HI0 NB0_438)
               (case side2 => exact Z40 HI0 GE438)
               rintro e w14 ⟨rfl, hi, hb, hk⟩
               refine ⟨_, rfl, ?_⟩
               replace BK438 := Aside0.mk (KeepBut.blk hk (g' := gb438) (o := .cells #[.int .i64 0, .string (⟨#[]⟩ : ByteArray)] 38 (0, 0)) (sqK BK438) NB438_0.out (by simp))
               replace HO441 := Aside0.mk (Kd.R_mono (Kd.R_keep (IsS131.apart (show IsS131 w0 _ g s0_0 s0_1 from by repeat (first | (with_reducible first | exact HI0.out | apply IsS131.alloc | apply IsS131.drewN | apply IsS131.drew | apply IsS131.set_1 | refine IsS131.far ?_ NB0_438.out _) | exact HI0.out)) (sqR HO441) (by decide)) hk (fun _ h => h.2)) (fun _ h => h.1))
               replace HK := Aside0.mk (KeepBut.trans (Z39 GW438) hk (.inl rfl))
               replace HB := Aside0.mk (hb)
               replace HI0 := Aside0.mk (hi)
               (try clear hb)
               (try clear hb2)
               (try clear hk)
               (try clear hi)
               refine hK.out _ _ trivial (fun hHeld => ?_)
               clear hK K
               refine sqN (some 6) ?_
               refine sqP (i := 3) (N := some 7) (h := ?_)
               exact norm_ Z100 (hJ0_2 (.slice (some adz_v440) y439.length co13, adz_v440) _ ⟨(sqR HO441), ⟨_, rfl⟩, (sqK BK438), (Z41 HI0 NB0_438), (Z39 GW438), (Z40 HI0 GE438)⟩)
              ·skip
               refine box_step ?hg (N := 3) ?hd (cs := #[.int .i64 0, .string (⟨#[]⟩ : ByteArray)]) (t := 38) ?hr ?_; (case hd => rfl); (case hg => rfl); (case hr => exact Z7)
               intro gb447 hg w14 hbox hb
               replace HO441 := sqU HO441 hb
               replace HB := Aside0.mk (below_step (Z40 HI0 GE438) hb)
               have BK447 := Aside0.mk (hbox)
               have GW447 := Aside0.mk ((Z111 GW438 : w.heap.size ≤ gb447))
               have GE447 := Aside0.mk ((Nat.le_trans HW0.out (Z111 GW438 : w.heap.size ≤ gb447) : w0.heap.size ≤ gb447))
               replace HK := Aside0.mk (KeepBut.trans (Z39 GW438) (KeepBut.of_below hb g none) (.inl rfl))
               obtain ⟨NB438_447, NB447_438⟩ := sqM hg BK438
               replace BK438 := sqT BK438 hb
               have NB0_447 := Aside0.mk ((Z101 HI0 NB0_438 : g ≠ gb447))
               have NB447_0 := Aside0.mk ((Z102 HI0 NB0_438 : gb447 ≠ g))
               replace HI0 := Aside0.mk (IsS131.below (Z41 HI0 NB0_438) hb)
               clear hb hbox hg
               refine hK.out _ _ trivial (fun hHeld => ?_)
               clear hK K
               refine sqN (some 3) ?_
               exact norm_ Z100 (hJ0_11 (.slice (some adz_v440) y439.length co13, adz_v440, gb447) _ ⟨(sqR HO441), ⟨_, rfl⟩, (sqK BK438), (sqK BK447), GW447.out, GE447.out, NB0_447.out, NB447_0.out, NB438_447.out, NB447_438.out, (Z42 HI0 NB0_438 NB0_447), (Z43 GW438 GW447), (Z44 HI0 GE438 GE447)⟩)
            ·skip
             rintro gb447 w11 ⟨h0_, h1_, h2_, h3_, h4_, h5_, h6_, h7_, h8_, h9_, h10_⟩
             replace BK438 := Aside0.mk h0_
             replace BK447 := Aside0.mk h1_
             replace GW447 := Aside0.mk h2_
             replace GE447 := Aside0.mk h3_
             replace NB0_447 := Aside0.mk h4_
             replace NB447_0 := Aside0.mk h5_
             replace NB438_447 := Aside0.mk h6_
             replace NB447_438 := Aside0.mk h7_
             replace HI0 := Aside0.mk h8_
             replace HK := Aside0.mk h9_
             replace HB := Aside0.mk h10_
             clear h0_ h1_ h2_ h3_ h4_ h5_ h6_ h7_ h8_ h9_ h10_
             have hHeld := trivial
             refine norm_ (a' := ?_) ?_ ?_
             rotate_left
             ·simp only [putAll, Act.put, List.setIfInBounds_toArray, List.set_cons_zero, List.set_cons_succ]
              rfl
             refine two_ (i := 0) (j := 6) (Ni := some 4) (Nj := some 10) #[true, true, true, false, false, true, false, false, false, false, false, true, false] #[false, true, true, false, false, true, true, false, false, false, false, true, false] rfl rfl rfl rfl (two_of HT_.out (by kernel_rfl)) (by decide) (by decide) (fun K hK => ?_) (fun K hK => ?_)
             ·skip
              refine Kd.R_lit_step (Kd.int .i64) _ 3 ?hg (N := 4) ?hd (xs := ([0, 0, 0, 1, 1, 2, 3, 4] : List Int)) (inner := [.int .i64 0, .int .i64 0, .int .i64 0, .int .i64 1, .int .i64 1, .int .i64 2, .int .i64 3, .int .i64 4]) (ok := fun _ => True) (okp := fun _ => True) ?hr ?hp (fun _ hk => hk) trivial (Below.refl _ _) (Nat.le_refl _) (by simp) ?_; (case hd => rfl); (case hg => rfl); (case hr => exact Z7); (case hp => exact Z99)
              intro v440 w12 ho13 hb hg_ hnew_
              clear hg_ hnew_
              (first | rw [← Ny439.out] at ho13 | (simp only [Int.reduceToNat] at ho13; rw [← Ny439.out] at ho13))
              have HO441 := Aside0.mk (Kd.R_lower ho13 (keep_size (w := w) (g := g) (row := none) (Z43 GW438 GW447)))
              replace BK438 := sqT BK438 hb
              replace BK447 := sqT BK447 hb
              replace HK := Aside0.mk (KeepBut.trans (Z43 GW438 GW447) (KeepBut.of_below hb g none) (.inl rfl))
              replace HB := Aside0.mk (below_step (Z44 HI0 GE438 GE447) hb)
              replace HI0 := Aside0.mk (IsS131.below (Z42 HI0 NB0_438 NB0_447) hb)
              clear hb ho13
              obtain ⟨Ao14, co14, eo14⟩ := Kd.R_slice HO441.out
              subst eo14
              obtain ⟨ado14, fo14, _⟩ := Kd.at_int (Kd.R_reads' HO441.out).2.2 0 (by decide) (by rw [Ny439.out]; simp)
              cases fo14
              refine hK.out _ _ trivial (fun hHeld => ?_)
              clear hK K
              refine sqN (some 4) ?_
              refine sqP (i := 3) (N := some 7) (h := ?_)
              exact norm_ Z100 (hJ0_2_11 (.slice (some ado14) y439.length co14, ado14, gb447) _ ⟨(sqR HO441), ⟨_, rfl⟩, (sqK BK438), (sqK BK447), GW447.out, GE447.out, NB0_447.out, NB447_0.out, NB438_447.out, NB447_438.out, (Z42 HI0 NB0_438 NB0_447), (Z43 GW438 GW447), (Z44 HI0 GE438 GE447)⟩)
             ·skip
              refine goes_ Tryz.func82 (by kernel_rfl) rfl #[.pointer (some ⟨g, 0, none⟩), .int .i64 60] (by rfl) rfl rfl sqA ?_
              with_reducible refine (spec_l20Rd_pick.calls k g s0_0 t443 60 t445 t446 w0 _ ?side1 ?side2 A5.out).mono ?_
              (case side1 => exact Z42 HI0 NB0_438 NB0_447)
              (case side2 => exact Z44 HI0 GE438 GE447)
              rintro e w12 ⟨rfl, hi, hb, hk⟩
              refine ⟨_, rfl, ?_⟩
              replace BK438 := Aside0.mk (KeepBut.blk hk (g' := gb438) (o := .cells #[.int .i64 0, .string (⟨#[]⟩ : ByteArray)] 38 (0, 0)) (sqK BK438) NB438_0.out (by simp))
              replace BK447 := Aside0.mk (KeepBut.blk hk (g' := gb447) (o := .cells #[.int .i64 0, .string (⟨#[]⟩ : ByteArray)] 38 (0, 0)) (sqK BK447) NB447_0.out (by simp))
              replace HK := Aside0.mk (KeepBut.trans (Z43 GW438 GW447) hk (.inl rfl))
              replace HB := Aside0.mk (hb)
              replace HI0 := Aside0.mk (hi)
              (try clear hb)
              (try clear hb2)
              (try clear hk)
              (try clear hi)
              refine hK.out _ _ trivial (fun hHeld => ?_)
              clear hK K
              refine sqN (some 10) ?_
              refine sqP (i := 7) (N := some 11) (h := ?_)
              refine sqP (i := 8) (N := some 12) (h := ?_)
              exact norm_ Z100 (hJ2_6_11 (gb447) _ ⟨(sqK BK438), (sqK BK447), GW447.out, GE447.out, NB0_447.out, NB447_0.out, NB438_447.out, NB447_438.out, (Z42 HI0 NB0_438 NB0_447), (Z43 GW438 GW447), (Z44 HI0 GE438 GE447)⟩)
           ·skip
            rintro _ w11 ⟨h0_, h1_, h2_, h3_⟩
            replace BK438 := Aside0.mk h0_
            replace HI0 := Aside0.mk h1_
            replace HK := Aside0.mk h2_
            replace HB := Aside0.mk h3_
            clear h0_ h1_ h2_ h3_
            have hHeld := trivial
            refine norm_ (a' := ?_) ?_ ?_
            rotate_left
            ·simp only [putAll, Act.put, List.setIfInBounds_toArray, List.set_cons_zero, List.set_cons_succ]
             rfl
            refine two_ (i := 0) (j := 11) (Ni := some 4) (Nj := some 3) #[true, true, true, false, false, true, true, true, true, false, false, false, false] #[false, true, true, false, false, true, true, true, true, false, false, true, false] rfl rfl rfl rfl (two_of HT_.out (by kernel_rfl)) (by decide) (by decide) (fun K hK => ?_) (fun K hK => ?_)
            ·skip
             refine Kd.R_lit_step (Kd.int .i64) _ 3 ?hg (N := 4) ?hd (xs := ([0, 0, 0, 1, 1, 2, 3, 4] : List Int)) (inner := [.int .i64 0, .int .i64 0, .int .i64 0, .int .i64 1, .int .i64 1, .int .i64 2, .int .i64 3, .int .i64 4]) (ok := fun _ => True) (okp := fun _ => True) ?hr ?hp (fun _ hk => hk) trivial (Below.refl _ _) (Nat.le_refl _) (by simp) ?_; (case hd => rfl); (case hg => rfl); (case hr => exact Z7); (case hp => exact Z99)
             intro v440 w12 ho13 hb hg_ hnew_
             clear hg_ hnew_
             (first | rw [← Ny439.out] at ho13 | (simp only [Int.reduceToNat] at ho13; rw [← Ny439.out] at ho13))
             have HO441 := Aside0.mk (Kd.R_lower ho13 (keep_size (w := w) (g := g) (row := none) (Z39 GW438)))
             replace BK438 := sqT BK438 hb
             replace HK := Aside0.mk (KeepBut.trans (Z39 GW438) (KeepBut.of_below hb g none) (.inl rfl))
             replace HB := Aside0.mk (below_step (Z40 HI0 GE438) hb)
             replace HI0 := Aside0.mk (IsS131.below (Z41 HI0 NB0_438) hb)
             clear hb ho13
             obtain ⟨Ao14, co14, eo14⟩ := Kd.R_slice HO441.out
             subst eo14
             obtain ⟨ado14, fo14, _⟩ := Kd.at_int (Kd.R_reads' HO441.out).2.2 0 (by decide) (by rw [Ny439.out]; simp)
             cases fo14
             refine hK.out _ _ trivial (fun hHeld => ?_)
             clear hK K
             refine sqN (some 4) ?_
             refine sqP (i := 3) (N := some 7) (h := ?_)
             exact norm_ Z100 (hJ0_2_6 (.slice (some ado14) y439.length co14, ado14) _ ⟨(sqR HO441), ⟨_, rfl⟩, (sqK BK438), (Z41 HI0 NB0_438), (Z39 GW438), (Z40 HI0 GE438)⟩)
            ·skip
             refine box_step ?hg (N := 3) ?hd (cs := #[.int .i64 0, .string (⟨#[]⟩ : ByteArray)]) (t := 38) ?hr ?_; (case hd => rfl); (case hg => rfl); (case hr => exact Z7)
             intro gb447 hg w12 hbox hb
             replace HB := Aside0.mk (below_step (Z40 HI0 GE438) hb)
             have BK447 := Aside0.mk (hbox)
             have GW447 := Aside0.mk ((Z111 GW438 : w.heap.size ≤ gb447))
             have GE447 := Aside0.mk ((Nat.le_trans HW0.out (Z111 GW438 : w.heap.size ≤ gb447) : w0.heap.size ≤ gb447))
             replace HK := Aside0.mk (KeepBut.trans (Z39 GW438) (KeepBut.of_below hb g none) (.inl rfl))
             obtain ⟨NB438_447, NB447_438⟩ := sqM hg BK438
             replace BK438 := sqT BK438 hb
             have NB0_447 := Aside0.mk ((Z105 HI0 NB0_438 : g ≠ gb447))
             have NB447_0 := Aside0.mk ((Z106 HI0 NB0_438 : gb447 ≠ g))
             replace HI0 := Aside0.mk (IsS131.below (Z41 HI0 NB0_438) hb)
             clear hb hbox hg
             refine hK.out _ _ trivial (fun hHeld => ?_)
             clear hK K
             refine sqN (some 3) ?_
             exact norm_ Z100 (hJ2_6_11 (gb447) _ ⟨(sqK BK438), (sqK BK447), GW447.out, GE447.out, NB0_447.out, NB447_0.out, NB438_447.out, NB447_438.out, (Z42 HI0 NB0_438 NB0_447), (Z43 GW438 GW447), (Z44 HI0 GE438 GE447)⟩)
          ·skip
           rintro ⟨v440, adz_v440, gb447⟩ w13 ⟨h0_, h1_, h2_, h3_, h4_, h5_, h6_, h7_, h8_, h9_, h10_, h11_, h12_⟩
           replace HO441 : Aside0 (Kd.R (Kd.int .i64) 3 w13 w.heap.size (fun _ => True) v440 y439) := ⟨h0_⟩
           replace HA_HO441 : Aside0 (∃ c_, (v440 : Value) = .slice (some adz_v440) y439.length c_) := ⟨h1_⟩
           replace BK438 : Aside0 (w13.heap[gb438]? = some (.cells #[.int .i64 0, .string (⟨#[]⟩ : ByteArray)] 38 (0, 0))) := ⟨h2_⟩
           replace BK447 : Aside0 (w13.heap[gb447]? = some (.cells #[.int .i64 0, .string (⟨#[]⟩ : ByteArray)] 38 (0, 0))) := ⟨h3_⟩
           replace GW447 : Aside0 (w.heap.size ≤ gb447) := ⟨h4_⟩
           replace GE447 : Aside0 (w0.heap.size ≤ gb447) := ⟨h5_⟩
           replace NB0_447 : Aside0 (g ≠ gb447) := ⟨h6_⟩
           replace NB447_0 : Aside0 (gb447 ≠ g) := ⟨h7_⟩
           replace NB438_447 : Aside0 (gb438 ≠ gb447) := ⟨h8_⟩
           replace NB447_438 : Aside0 (gb447 ≠ gb438) := ⟨h9_⟩
           replace HI0 : Aside0 (IsS131 w0 w13 g s0_0 s0_1) := ⟨h10_⟩
           replace HK : Aside0 (KeepBut w w13 g none) := ⟨h11_⟩
           replace HB : Aside0 (Below w0.heap.size w0 w13) := ⟨h12_⟩
           clear h0_ h1_ h2_ h3_ h4_ h5_ h6_ h7_ h8_ h9_ h10_ h11_ h12_
           have hHeld := trivial
           obtain ⟨co14, eo14⟩ := HA_HO441.out
           clear HA_HO441
           subst eo14
           refine norm_ (a' := ?_) ?_ ?_
           rotate_left
           ·simp only [putAll, Act.put, List.setIfInBounds_toArray, List.set_cons_zero, List.set_cons_succ]
            rfl
           refine one_ (i := 2) (N := some 6) #[true, true, true, false, false, true, false, false, false, false, false, true, false] rfl rfl (one_of HT_.out (by kernel_rfl)) (by decide) (fun K hK => ?_)
           refine goes_ Tryz.func82 (by kernel_rfl) rfl #[.pointer (some ⟨g, 0, none⟩), .int .i64 8] (by rfl) rfl rfl sqA ?_
           with_reducible refine (spec_l20Rd_pick.calls k g s0_0 s0_1 8 t442 t443 w0 _ ?side1 ?side2 A2.out).mono ?_
           (case side1 => exact Z42 HI0 NB0_438 NB0_447)
           (case side2 => exact Z44 HI0 GE438 GE447)
           rintro e w15 ⟨rfl, hi, hb, hk⟩
           refine ⟨_, rfl, ?_⟩
           replace BK438 := Aside0.mk (KeepBut.blk hk (g' := gb438) (o := .cells #[.int .i64 0, .string (⟨#[]⟩ : ByteArray)] 38 (0, 0)) (sqK BK438) NB438_0.out (by simp))
           replace HO441 := Aside0.mk (Kd.R_mono (Kd.R_keep (IsS131.apart (show IsS131 w0 _ g s0_0 s0_1 from by repeat (first | (with_reducible first | exact HI0.out | apply IsS131.alloc | apply IsS131.drewN | apply IsS131.drew | apply IsS131.set_1 | refine IsS131.far ?_ NB0_438.out _ | refine IsS131.far ?_ NB0_447.out _) | exact HI0.out)) (sqR HO441) (by decide)) hk (fun _ h => h.2)) (fun _ h => h.1))
           replace BK447 := Aside0.mk (KeepBut.blk hk (g' := gb447) (o := .cells #[.int .i64 0, .string (⟨#[]⟩ : ByteArray)] 38 (0, 0)) (sqK BK447) NB447_0.out (by simp))
           replace HK := Aside0.mk (KeepBut.trans (Z43 GW438 GW447) hk (.inl rfl))
           replace HB := Aside0.mk (hb)
           replace HI0 := Aside0.mk (hi)
           (try clear hb)
           (try clear hb2)
           (try clear hk)
           (try clear hi)
           refine hK.out _ _ trivial (fun hHeld => ?_)
           clear hK K
           refine sqN (some 6) ?_
           refine sqP (i := 3) (N := some 7) (h := ?_)
           exact norm_ Z100 (hJ0_2_11 (.slice (some adz_v440) y439.length co14, adz_v440, gb447) _ ⟨(sqR HO441), ⟨_, rfl⟩, (sqK BK438), (sqK BK447), GW447.out, GE447.out, NB0_447.out, NB447_0.out, NB438_447.out, NB447_438.out, (Z42 HI0 NB0_438 NB0_447), (Z43 GW438 GW447), (Z44 HI0 GE438 GE447)⟩)
         ·skip
          rintro ⟨v440, adz_v440⟩ w13 ⟨h0_, h1_, h2_, h3_, h4_, h5_⟩
          replace HO441 : Aside0 (Kd.R (Kd.int .i64) 3 w13 w.heap.size (fun _ => True) v440 y439) := ⟨h0_⟩
          replace HA_HO441 : Aside0 (∃ c_, (v440 : Value) = .slice (some adz_v440) y439.length c_) := ⟨h1_⟩
          replace BK438 : Aside0 (w13.heap[gb438]? = some (.cells #[.int .i64 0, .string (⟨#[]⟩ : ByteArray)] 38 (0, 0))) := ⟨h2_⟩
          replace HI0 : Aside0 (IsS131 w0 w13 g s0_0 t443) := ⟨h3_⟩
          replace HK : Aside0 (KeepBut w w13 g none) := ⟨h4_⟩
          replace HB : Aside0 (Below w0.heap.size w0 w13) := ⟨h5_⟩
          clear h0_ h1_ h2_ h3_ h4_ h5_
          have hHeld := trivial
          obtain ⟨co14, eo14⟩ := HA_HO441.out
          clear HA_HO441
          subst eo14
          refine norm_ (a' := ?_) ?_ ?_
          rotate_left
          ·simp only [putAll, Act.put, List.setIfInBounds_toArray, List.set_cons_zero, List.set_cons_succ]
           rfl
          refine three_ (i := 4) (j := 6) (k := 11) (Ni := some 8) (Nj := some 10) (Nk := some 3) #[true, true, true, true, true, true, false, false, false, false, false, false, false] #[true, true, true, true, false, true, true, false, false, false, false, false, false] #[true, true, true, true, false, true, false, false, false, false, false, true, false] rfl rfl rfl rfl rfl rfl (three_of HT_.out (by kernel_rfl)) (by decide) (by decide) (by decide) (fun K hK => ?_) (fun K hK => ?_) (fun K hK => ?_)
          ·skip
           (have p444 : 0 ≤ (t442 : Int) := of_decide_eq_true Z2; have q444 : t442 < (y439.length : Int) := of_decide_eq_true Z2; obtain ⟨ad444, e444, hx444_0⟩ := Kd.at_int (Kd.R_reads' HO441.out).2.2 t442 p444 q444; obtain rfl : adz_v440 = ad444 := (by injection e444))
           refine value_ (w1 := ?_) (v := ?_) (by rfl) rfl ?_ ?_
           rotate_left 2
           ·go_simp
            constructor
            ·rfl
            ·rfl
           clear hx444_0
           refine hK.out _ _ trivial (fun hHeld => ?_)
           clear hK K
           refine sqN (some 8) ?_
           exact norm_ Z100 (hJ0_2_4 (.slice (some adz_v440) y439.length co14, adz_v440) _ ⟨(sqR HO441), ⟨_, rfl⟩, (sqK BK438), (Z41 HI0 NB0_438), (Z39 GW438), (Z40 HI0 GE438)⟩)
          ·skip
           refine goes_ Tryz.func82 (by kernel_rfl) rfl #[.pointer (some ⟨g, 0, none⟩), .int .i64 60] (by rfl) rfl rfl sqA ?_
           with_reducible refine (spec_l20Rd_pick.calls k g s0_0 t443 60 t445 t446 w0 _ ?side1 ?side2 A5.out).mono ?_
           (case side1 => exact Z41 HI0 NB0_438)
           (case side2 => exact Z40 HI0 GE438)
           rintro e w15 ⟨rfl, hi, hb, hk⟩
           refine ⟨_, rfl, ?_⟩
           replace BK438 := Aside0.mk (KeepBut.blk hk (g' := gb438) (o := .cells #[.int .i64 0, .string (⟨#[]⟩ : ByteArray)] 38 (0, 0)) (sqK BK438) NB438_0.out (by simp))
           replace HO441 := Aside0.mk (Kd.R_mono (Kd.R_keep (IsS131.apart (show IsS131 w0 _ g s0_0 t443 from by repeat (first | (with_reducible first | exact HI0.out | apply IsS131.alloc | apply IsS131.drewN | apply IsS131.drew | apply IsS131.set_1 | refine IsS131.far ?_ NB0_438.out _) | exact HI0.out)) (sqR HO441) (by decide)) hk (fun _ h => h.2)) (fun _ h => h.1))
           replace HK := Aside0.mk (KeepBut.trans (Z39 GW438) hk (.inl rfl))
           replace HB := Aside0.mk (hb)
           replace HI0 := Aside0.mk (hi)
           (try clear hb)
           (try clear hb2)
           (try clear hk)
           (try clear hi)
           refine hK.out _ _ trivial (fun hHeld => ?_)
           clear hK K
           refine sqN (some 10) ?_
           refine sqP (i := 7) (N := some 11) (h := ?_)
           refine sqP (i := 8) (N := some 12) (h := ?_)
           exact norm_ Z100 (hJ0_2_6 (.slice (some adz_v440) y439.length co14, adz_v440) _ ⟨(sqR HO441), ⟨_, rfl⟩, (sqK BK438), (Z41 HI0 NB0_438), (Z39 GW438), (Z40 HI0 GE438)⟩)
          ·skip
           refine box_step ?hg (N := 3) ?hd (cs := #[.int .i64 0, .string (⟨#[]⟩ : ByteArray)]) (t := 38) ?hr ?_; (case hd => rfl); (case hg => rfl); (case hr => exact Z7)
           intro gb447 hg w15 hbox hb
           replace HO441 := sqU HO441 hb
           replace HB := Aside0.mk (below_step (Z40 HI0 GE438) hb)
           have BK447 := Aside0.mk (hbox)
           have GW447 := Aside0.mk ((Z111 GW438 : w.heap.size ≤ gb447))
           have GE447 := Aside0.mk ((Nat.le_trans HW0.out (Z111 GW438 : w.heap.size ≤ gb447) : w0.heap.size ≤ gb447))
           replace HK := Aside0.mk (KeepBut.trans (Z39 GW438) (KeepBut.of_below hb g none) (.inl rfl))
           obtain ⟨NB438_447, NB447_438⟩ := sqM hg BK438
           replace BK438 := sqT BK438 hb
           have NB0_447 := Aside0.mk ((Z103 HI0 NB0_438 : g ≠ gb447))
           have NB447_0 := Aside0.mk ((Z104 HI0 NB0_438 : gb447 ≠ g))
           replace HI0 := Aside0.mk (IsS131.below (Z41 HI0 NB0_438) hb)
           clear hb hbox hg
           refine hK.out _ _ trivial (fun hHeld => ?_)
           clear hK K
           refine sqN (some 3) ?_
           exact norm_ Z100 (hJ0_2_11 (.slice (some adz_v440) y439.length co14, adz_v440, gb447) _ ⟨(sqR HO441), ⟨_, rfl⟩, (sqK BK438), (sqK BK447), GW447.out, GE447.out, NB0_447.out, NB447_0.out, NB438_447.out, NB447_438.out, (Z42 HI0 NB0_438 NB0_447), (Z43 GW438 GW447), (Z44 HI0 GE438 GE447)⟩)
        ·skip
         rintro gb447 w12 ⟨h0_, h1_, h2_, h3_, h4_, h5_, h6_, h7_, h8_, h9_, h10_⟩
         replace BK438 := Aside0.mk h0_
         replace BK447 := Aside0.mk h1_
         replace GW447 := Aside0.mk h2_
         replace GE447 := Aside0.mk h3_
         replace NB0_447 := Aside0.mk h4_
         replace NB447_0 := Aside0.mk h5_
         replace NB438_447 := Aside0.mk h6_
         replace NB447_438 := Aside0.mk h7_
         replace HI0 := Aside0.mk h8_
         replace HK := Aside0.mk h9_
         replace HB := Aside0.mk h10_
         clear h0_ h1_ h2_ h3_ h4_ h5_ h6_ h7_ h8_ h9_ h10_
         have hHeld := trivial
         refine norm_ (a' := ?_) ?_ ?_
         rotate_left
         ·simp only [putAll, Act.put, List.setIfInBounds_toArray, List.set_cons_zero, List.set_cons_succ]
          rfl
         refine one_ (i := 0) (N := some 4) #[true, true, true, false, false, true, true, true, true, false, false, true, false] rfl rfl (one_of HT_.out (by kernel_rfl)) (by decide) (fun K hK => ?_)
         refine Kd.R_lit_step (Kd.int .i64) _ 3 ?hg (N := 4) ?hd (xs := ([0, 0, 0, 1, 1, 2, 3, 4] : List Int)) (inner := [.int .i64 0, .int .i64 0, .int .i64 0, .int .i64 1, .int .i64 1, .int .i64 2, .int .i64 3, .int .i64 4]) (ok := fun _ => True) (okp := fun _ => True) ?hr ?hp (fun _ hk => hk) trivial (Below.refl _ _) (Nat.le_refl _) (by simp) ?_; (case hd => rfl); (case hg => rfl); (case hr => exact Z7); (case hp => exact Z99)
         intro v440 w13 ho14 hb hg_ hnew_
         clear hg_ hnew_
         (first | rw [← Ny439.out] at ho14 | (simp only [Int.reduceToNat] at ho14; rw [← Ny439.out] at ho14))
         have HO441 := Aside0.mk (Kd.R_lower ho14 (keep_size (w := w) (g := g) (row := none) (Z43 GW438 GW447)))
         replace BK438 := sqT BK438 hb
         replace BK447 := sqT BK447 hb
         replace HK := Aside0.mk (KeepBut.trans (Z43 GW438 GW447) (KeepBut.of_below hb g none) (.inl rfl))
         replace HB := Aside0.mk (below_step (Z44 HI0 GE438 GE447) hb)
         replace HI0 := Aside0.mk (IsS131.below (Z42 HI0 NB0_438 NB0_447) hb)
         clear hb ho14
         obtain ⟨Ao15, co15, eo15⟩ := Kd.R_slice HO441.out
         subst eo15
         obtain ⟨ado15, fo15, _⟩ := Kd.at_int (Kd.R_reads' HO441.out).2.2 0 (by decide) (by rw [Ny439.out]; simp)
         cases fo15
         refine hK.out _ _ trivial (fun hHeld => ?_)
         clear hK K
         refine sqN (some 4) ?_
         refine sqP (i := 3) (N := some 7) (h := ?_)
         exact norm_ Z100 (hJ0_2_6_11 (.slice (some ado15) y439.length co15, ado15, gb447) _ ⟨(sqR HO441), ⟨_, rfl⟩, (sqK BK438), (sqK BK447), GW447.out, GE447.out, NB0_447.out, NB447_0.out, NB438_447.out, NB447_438.out, (Z42 HI0 NB0_438 NB0_447), (Z43 GW438 GW447), (Z44 HI0 GE438 GE447)⟩)
       ·skip
        rintro ⟨v440, adz_v440, gb447⟩ w14 ⟨h0_, h1_, h2_, h3_, h4_, h5_, h6_, h7_, h8_, h9_, h10_, h11_, h12_⟩
        replace HO441 : Aside0 (Kd.R (Kd.int .i64) 3 w14 w.heap.size (fun _ => True) v440 y439) := ⟨h0_⟩
        replace HA_HO441 : Aside0 (∃ c_, (v440 : Value) = .slice (some adz_v440) y439.length c_) := ⟨h1_⟩
        replace BK438 : Aside0 (w14.heap[gb438]? = some (.cells #[.int .i64 0, .string (⟨#[]⟩ : ByteArray)] 38 (0, 0))) := ⟨h2_⟩
        replace BK447 : Aside0 (w14.heap[gb447]? = some (.cells #[.int .i64 0, .string (⟨#[]⟩ : ByteArray)] 38 (0, 0))) := ⟨h3_⟩
        replace GW447 : Aside0 (w.heap.size ≤ gb447) := ⟨h4_⟩
        replace GE447 : Aside0 (w0.heap.size ≤ gb447) := ⟨h5_⟩
        replace NB0_447 : Aside0 (g ≠ gb447) := ⟨h6_⟩
        replace NB447_0 : Aside0 (gb447 ≠ g) := ⟨h7_⟩
        replace NB438_447 : Aside0 (gb438 ≠ gb447) := ⟨h8_⟩
        replace NB447_438 : Aside0 (gb447 ≠ gb438) := ⟨h9_⟩
        replace HI0 : Aside0 (IsS131 w0 w14 g s0_0 t443) := ⟨h10_⟩
        replace HK : Aside0 (KeepBut w w14 g none) := ⟨h11_⟩
        replace HB : Aside0 (Below w0.heap.size w0 w14) := ⟨h12_⟩
        clear h0_ h1_ h2_ h3_ h4_ h5_ h6_ h7_ h8_ h9_ h10_ h11_ h12_
        have hHeld := trivial
        obtain ⟨co15, eo15⟩ := HA_HO441.out
        clear HA_HO441
        subst eo15
        refine norm_ (a' := ?_) ?_ ?_
        rotate_left
        ·simp only [putAll, Act.put, List.setIfInBounds_toArray, List.set_cons_zero, List.set_cons_succ]
         rfl
        refine two_ (i := 4) (j := 6) (Ni := some 8) (Nj := some 10) #[true, true, true, true, true, true, false, false, false, false, false, true, false] #[true, true, true, true, false, true, true, false, false, false, false, true, false] rfl rfl rfl rfl (two_of HT_.out (by kernel_rfl)) (by decide) (by decide) (fun K hK => ?_) (fun K hK => ?_)
        ·skip
         (have p444 : 0 ≤ (t442 : Int) := of_decide_eq_true Z2; have q444 : t442 < (y439.length : Int) := of_decide_eq_true Z2; obtain ⟨ad444, e444, hx444_0⟩ := Kd.at_int (Kd.R_reads' HO441.out).2.2 t442 p444 q444; obtain rfl : adz_v440 = ad444 := (by injection e444))
         refine value_ (w1 := ?_) (v := ?_) (by rfl) rfl ?_ ?_
         rotate_left 2
         ·go_simp
          constructor
          ·rfl
          ·rfl
         clear hx444_0
         refine hK.out _ _ trivial (fun hHeld => ?_)
         clear hK K
         refine sqN (some 8) ?_
         exact norm_ Z100 (hJ0_2_4_11 (.slice (some adz_v440) y439.length co15, adz_v440, gb447) _ ⟨(sqR HO441), ⟨_, rfl⟩, (sqK BK438), (sqK BK447), GW447.out, GE447.out, NB0_447.out, NB447_0.out, NB438_447.out, NB447_438.out, (Z42 HI0 NB0_438 NB0_447), (Z43 GW438 GW447), (Z44 HI0 GE438 GE447)⟩)
        ·skip
         refine goes_ Tryz.func82 (by kernel_rfl) rfl #[.pointer (some ⟨g, 0, none⟩), .int .i64 60] (by rfl) rfl rfl sqA ?_
         with_reducible refine (spec_l20Rd_pick.calls k g s0_0 t443 60 t445 t446 w0 _ ?side1 ?side2 A5.out).mono ?_
         (case side1 => exact Z42 HI0 NB0_438 NB0_447)
         (case side2 => exact Z44 HI0 GE438 GE447)
         rintro e w16 ⟨rfl, hi, hb, hk⟩
         refine ⟨_, rfl, ?_⟩
         replace BK438 := Aside0.mk (KeepBut.blk hk (g' := gb438) (o := .cells #[.int .i64 0, .string (⟨#[]⟩ : ByteArray)] 38 (0, 0)) (sqK BK438) NB438_0.out (by simp))
         replace HO441 := Aside0.mk (Kd.R_mono (Kd.R_keep (IsS131.apart (show IsS131 w0 _ g s0_0 t443 from by repeat (first | (with_reducible first | exact HI0.out | apply IsS131.alloc | apply IsS131.drewN | apply IsS131.drew | apply IsS131.set_1 | refine IsS131.far ?_ NB0_438.out _ | refine IsS131.far ?_ NB0_447.out _) | exact HI0.out)) (sqR HO441) (by decide)) hk (fun _ h => h.2)) (fun _ h => h.1))
         replace BK447 := Aside0.mk (KeepBut.blk hk (g' := gb447) (o := .cells #[.int .i64 0, .string (⟨#[]⟩ : ByteArray)] 38 (0, 0)) (sqK BK447) NB447_0.out (by simp))
         replace HK := Aside0.mk (KeepBut.trans (Z43 GW438 GW447) hk (.inl rfl))
         replace HB := Aside0.mk (hb)
         replace HI0 := Aside0.mk (hi)
         (try clear hb)
         (try clear hb2)
         (try clear hk)
         (try clear hi)
         refine hK.out _ _ trivial (fun hHeld => ?_)
         clear hK K
         refine sqN (some 10) ?_
         refine sqP (i := 7) (N := some 11) (h := ?_)
         refine sqP (i := 8) (N := some 12) (h := ?_)
         exact norm_ Z100 (hJ0_2_6_11 (.slice (some adz_v440) y439.length co15, adz_v440, gb447) _ ⟨(sqR HO441), ⟨_, rfl⟩, (sqK BK438), (sqK BK447), GW447.out, GE447.out, NB0_447.out, NB447_0.out, NB438_447.out, NB447_438.out, (Z42 HI0 NB0_438 NB0_447), (Z43 GW438 GW447), (Z44 HI0 GE438 GE447)⟩)
      ·skip
       rintro ⟨v440, adz_v440⟩ w14 ⟨h0_, h1_, h2_, h3_, h4_, h5_⟩
       replace HO441 : Aside0 (Kd.R (Kd.int .i64) 3 w14 w.heap.size (fun _ => True) v440 y439) := ⟨h0_⟩
       replace HA_HO441 : Aside0 (∃ c_, (v440 : Value) = .slice (some adz_v440) y439.length c_) := ⟨h1_⟩
       replace BK438 : Aside0 (w14.heap[gb438]? = some (.cells #[.int .i64 0, .string (⟨#[]⟩ : ByteArray)] 38 (0, 0))) := ⟨h2_⟩
       replace HI0 : Aside0 (IsS131 w0 w14 g s0_0 t446) := ⟨h3_⟩
       replace HK : Aside0 (KeepBut w w14 g none) := ⟨h4_⟩
       replace HB : Aside0 (Below w0.heap.size w0 w14) := ⟨h5_⟩
       clear h0_ h1_ h2_ h3_ h4_ h5_
       have hHeld := trivial
       obtain ⟨co15, eo15⟩ := HA_HO441.out
       clear HA_HO441
       subst eo15
       refine norm_ (a' := ?_) ?_ ?_
       rotate_left
       ·simp only [putAll, Act.put, List.setIfInBounds_toArray, List.set_cons_zero, List.set_cons_succ]
        rfl
       refine two_ (i := 4) (j := 11) (Ni := some 8) (Nj := some 3) #[true, true, true, true, true, true, true, true, true, false, false, false, false] #[true, true, true, true, false, true, true, true, true, false, false, true, false] rfl rfl rfl rfl (two_of HT_.out (by kernel_rfl)) (by decide) (by decide) (fun K hK => ?_) (fun K hK => ?_)
       ·skip
        (have p444 : 0 ≤ (t442 : Int) := of_decide_eq_true Z2; have q444 : t442 < (y439.length : Int) := of_decide_eq_true Z2; obtain ⟨ad444, e444, hx444_0⟩ := Kd.at_int (Kd.R_reads' HO441.out).2.2 t442 p444 q444; obtain rfl : adz_v440 = ad444 := (by injection e444))
        refine value_ (w1 := ?_) (v := ?_) (by rfl) rfl ?_ ?_
        rotate_left 2
        ·go_simp
         constructor
         ·rfl
         ·rfl
        clear hx444_0
        refine hK.out _ _ trivial (fun hHeld => ?_)
        clear hK K
        refine sqN (some 8) ?_
        refine sqP (i := 9) (N := some 13) (h := ?_)
        refine sqP (i := 10) (N := some 14) (h := ?_)
        exact norm_ Z100 (hJ0_2_4_6 (.slice (some adz_v440) y439.length co15, adz_v440) _ ⟨(sqR HO441), ⟨_, rfl⟩, (sqK BK438), (Z41 HI0 NB0_438), (Z39 GW438), (Z40 HI0 GE438)⟩)
       ·skip
        refine box_step ?hg (N := 3) ?hd (cs := #[.int .i64 0, .string (⟨#[]⟩ : ByteArray)]) (t := 38) ?hr ?_; (case hd => rfl); (case hg => rfl); (case hr => exact Z7)
        intro gb447 hg w16 hbox hb
        replace HO441 := sqU HO441 hb
        replace HB := Aside0.mk (below_step (Z40 HI0 GE438) hb)
        have BK447 := Aside0.mk (hbox)
        have GW447 := Aside0.mk ((Z111 GW438 : w.heap.size ≤ gb447))
        have GE447 := Aside0.mk ((Nat.le_trans HW0.out (Z111 GW438 : w.heap.size ≤ gb447) : w0.heap.size ≤ gb447))
        replace HK := Aside0.mk (KeepBut.trans (Z39 GW438) (KeepBut.of_below hb g none) (.inl rfl))
        obtain ⟨NB438_447, NB447_438⟩ := sqM hg BK438
        replace BK438 := sqT BK438 hb
        have NB0_447 := Aside0.mk ((Z105 HI0 NB0_438 : g ≠ gb447))
        have NB447_0 := Aside0.mk ((Z106 HI0 NB0_438 : gb447 ≠ g))
        replace HI0 := Aside0.mk (IsS131.below (Z41 HI0 NB0_438) hb)
        clear hb hbox hg
        refine hK.out _ _ trivial (fun hHeld => ?_)
        clear hK K
        refine sqN (some 3) ?_
        exact norm_ Z100 (hJ0_2_6_11 (.slice (some adz_v440) y439.length co15, adz_v440, gb447) _ ⟨(sqR HO441), ⟨_, rfl⟩, (sqK BK438), (sqK BK447), GW447.out, GE447.out, NB0_447.out, NB447_0.out, NB438_447.out, NB447_438.out, (Z42 HI0 NB0_438 NB0_447), (Z43 GW438 GW447), (Z44 HI0 GE438 GE447)⟩)
     ·skip
      rintro ⟨v440, adz_v440⟩ w13 ⟨h0_, h1_, h2_, h3_, h4_, h5_⟩
      replace HO441 : Aside0 (Kd.R (Kd.int .i64) 3 w13 w.heap.size (fun _ => True) v440 y439) := ⟨h0_⟩
      replace HA_HO441 : Aside0 (∃ c_, (v440 : Value) = .slice (some adz_v440) y439.length c_) := ⟨h1_⟩
      replace BK438 : Aside0 (w13.heap[gb438]? = some (.cells #[.int .i64 0, .string (⟨#[]⟩ : ByteArray)] 38 (0, 0))) := ⟨h2_⟩
      replace HI0 : Aside0 (IsS131 w0 w13 g s0_0 t443) := ⟨h3_⟩
      replace HK : Aside0 (KeepBut w w13 g none) := ⟨h4_⟩
      replace HB : Aside0 (Below w0.heap.size w0 w13) := ⟨h5_⟩
      clear h0_ h1_ h2_ h3_ h4_ h5_
      have hHeld := trivial
      obtain ⟨co14, eo14⟩ := HA_HO441.out
      clear HA_HO441
      subst eo14
      refine norm_ (a' := ?_) ?_ ?_
      rotate_left
      ·simp only [putAll, Act.put, List.setIfInBounds_toArray, List.set_cons_zero, List.set_cons_succ]
       rfl
      refine two_ (i := 6) (j := 11) (Ni := some 10) (Nj := some 3) #[true, true, true, true, true, true, true, false, false, false, false, false, false] #[true, true, true, true, true, true, false, false, false, false, false, true, false] rfl rfl rfl rfl (two_of HT_.out (by kernel_rfl)) (by decide) (by decide) (fun K hK => ?_) (fun K hK => ?_)
      ·skip
       refine goes_ Tryz.func82 (by kernel_rfl) rfl #[.pointer (some ⟨g, 0, none⟩), .int .i64 60] (by rfl) rfl rfl sqA ?_
       with_reducible refine (spec_l20Rd_pick.calls k g s0_0 t443 60 t445 t446 w0 _ ?side1 ?side2 A5.out).mono ?_
       (case side1 => exact Z41 HI0 NB0_438)
       (case side2 => exact Z40 HI0 GE438)
       rintro e w15 ⟨rfl, hi, hb, hk⟩
       refine ⟨_, rfl, ?_⟩
       replace BK438 := Aside0.mk (KeepBut.blk hk (g' := gb438) (o := .cells #[.int .i64 0, .string (⟨#[]⟩ : ByteArray)] 38 (0, 0)) (sqK BK438) NB438_0.out (by simp))
       replace HO441 := Aside0.mk (Kd.R_mono (Kd.R_keep (IsS131.apart (show IsS131 w0 _ g s0_0 t443 from by repeat (first | (with_reducible first | exact HI0.out | apply IsS131.alloc | apply IsS131.drewN | apply IsS131.drew | apply IsS131.set_1 | refine IsS131.far ?_ NB0_438.out _) | exact HI0.out)) (sqR HO441) (by decide)) hk (fun _ h => h.2)) (fun _ h => h.1))
       replace HK := Aside0.mk (KeepBut.trans (Z39 GW438) hk (.inl rfl))
       replace HB := Aside0.mk (hb)
       replace HI0 := Aside0.mk (hi)
       (try clear hb)
       (try clear hb2)
       (try clear hk)
       (try clear hi)
       refine hK.out _ _ trivial (fun hHeld => ?_)
       clear hK K
       refine sqN (some 10) ?_
       refine sqP (i := 7) (N := some 11) (h := ?_)
       refine sqP (i := 8) (N := some 12) (h := ?_)
       refine sqP (i := 9) (N := some 13) (h := ?_)
       refine sqP (i := 10) (N := some 14) (h := ?_)
       exact norm_ Z100 (hJ0_2_4_6 (.slice (some adz_v440) y439.length co14, adz_v440) _ ⟨(sqR HO441), ⟨_, rfl⟩, (sqK BK438), (Z41 HI0 NB0_438), (Z39 GW438), (Z40 HI0 GE438)⟩)
      ·skip
       refine box_step ?hg (N := 3) ?hd (cs := #[.int .i64 0, .string (⟨#[]⟩ : ByteArray)]) (t := 38) ?hr ?_; (case hd => rfl); (case hg => rfl); (case hr => exact Z7)
       intro gb447 hg w15 hbox hb
       replace HO441 := sqU HO441 hb
       replace HB := Aside0.mk (below_step (Z40 HI0 GE438) hb)
       have BK447 := Aside0.mk (hbox)
       have GW447 := Aside0.mk ((Z111 GW438 : w.heap.size ≤ gb447))
       have GE447 := Aside0.mk ((Nat.le_trans HW0.out (Z111 GW438 : w.heap.size ≤ gb447) : w0.heap.size ≤ gb447))
       replace HK := Aside0.mk (KeepBut.trans (Z39 GW438) (KeepBut.of_below hb g none) (.inl rfl))
       obtain ⟨NB438_447, NB447_438⟩ := sqM hg BK438
       replace BK438 := sqT BK438 hb
       have NB0_447 := Aside0.mk ((Z103 HI0 NB0_438 : g ≠ gb447))
       have NB447_0 := Aside0.mk ((Z104 HI0 NB0_438 : gb447 ≠ g))
       replace HI0 := Aside0.mk (IsS131.below (Z41 HI0 NB0_438) hb)
       clear hb hbox hg
       refine hK.out _ _ trivial (fun hHeld => ?_)
       clear hK K
       refine sqN (some 3) ?_
       exact norm_ Z100 (hJ0_2_4_11 (.slice (some adz_v440) y439.length co14, adz_v440, gb447) _ ⟨(sqR HO441), ⟨_, rfl⟩, (sqK BK438), (sqK BK447), GW447.out, GE447.out, NB0_447.out, NB447_0.out, NB438_447.out, NB447_438.out, (Z42 HI0 NB0_438 NB0_447), (Z43 GW438 GW447), (Z44 HI0 GE438 GE447)⟩)
    ·skip
     rintro ⟨v440, adz_v440, gb447⟩ w15 ⟨h0_, h1_, h2_, h3_, h4_, h5_, h6_, h7_, h8_, h9_, h10_, h11_, h12_⟩
     replace HO441 : Aside0 (Kd.R (Kd.int .i64) 3 w15 w.heap.size (fun _ => True) v440 y439) := ⟨h0_⟩
     replace HA_HO441 : Aside0 (∃ c_, (v440 : Value) = .slice (some adz_v440) y439.length c_) := ⟨h1_⟩
     replace BK438 : Aside0 (w15.heap[gb438]? = some (.cells #[.int .i64 0, .string (⟨#[]⟩ : ByteArray)] 38 (0, 0))) := ⟨h2_⟩
     replace BK447 : Aside0 (w15.heap[gb447]? = some (.cells #[.int .i64 0, .string (⟨#[]⟩ : ByteArray)] 38 (0, 0))) := ⟨h3_⟩
     replace GW447 : Aside0 (w.heap.size ≤ gb447) := ⟨h4_⟩
     replace GE447 : Aside0 (w0.heap.size ≤ gb447) := ⟨h5_⟩
     replace NB0_447 : Aside0 (g ≠ gb447) := ⟨h6_⟩
     replace NB447_0 : Aside0 (gb447 ≠ g) := ⟨h7_⟩
     replace NB438_447 : Aside0 (gb438 ≠ gb447) := ⟨h8_⟩
     replace NB447_438 : Aside0 (gb447 ≠ gb438) := ⟨h9_⟩
     replace HI0 : Aside0 (IsS131 w0 w15 g s0_0 t446) := ⟨h10_⟩
     replace HK : Aside0 (KeepBut w w15 g none) := ⟨h11_⟩
     replace HB : Aside0 (Below w0.heap.size w0 w15) := ⟨h12_⟩
     clear h0_ h1_ h2_ h3_ h4_ h5_ h6_ h7_ h8_ h9_ h10_ h11_ h12_
     have hHeld := trivial
     obtain ⟨co16, eo16⟩ := HA_HO441.out
     clear HA_HO441
     subst eo16
     refine norm_ (a' := ?_) ?_ ?_
     rotate_left
     ·simp only [putAll, Act.put, List.setIfInBounds_toArray, List.set_cons_zero, List.set_cons_succ]
      rfl
     refine one_ (i := 4) (N := some 8) #[true, true, true, true, true, true, true, true, true, false, false, true, false] rfl rfl (one_of HT_.out (by kernel_rfl)) (by decide) (fun K hK => ?_)
     (have p444 : 0 ≤ (t442 : Int) := of_decide_eq_true Z2; have q444 : t442 < (y439.length : Int) := of_decide_eq_true Z2; obtain ⟨ad444, e444, hx444_0⟩ := Kd.at_int (Kd.R_reads' HO441.out).2.2 t442 p444 q444; obtain rfl : adz_v440 = ad444 := (by injection e444))
     refine value_ (w1 := ?_) (v := ?_) (by rfl) rfl ?_ ?_
     rotate_left 2
     ·go_simp
      constructor
      ·rfl
      ·rfl
     clear hx444_0
     refine hK.out _ _ trivial (fun hHeld => ?_)
     clear hK K
     refine sqN (some 8) ?_
     refine sqP (i := 9) (N := some 13) (h := ?_)
     refine sqP (i := 10) (N := some 14) (h := ?_)
     exact norm_ Z100 (hJ0_2_4_6_11 (.slice (some adz_v440) y439.length co16, adz_v440, gb447) _ ⟨(sqR HO441), ⟨_, rfl⟩, (sqK BK438), (sqK BK447), GW447.out, GE447.out, NB0_447.out, NB447_0.out, NB438_447.out, NB447_438.out, (Z42 HI0 NB0_438 NB0_447), (Z43 GW438 GW447), (Z44 HI0 GE438 GE447)⟩)
   ·skip
    rintro ⟨v440, adz_v440, gb447⟩ w14 ⟨h0_, h1_, h2_, h3_, h4_, h5_, h6_, h7_, h8_, h9_, h10_, h11_, h12_⟩
    replace HO441 : Aside0 (Kd.R (Kd.int .i64) 3 w14 w.heap.size (fun _ => True) v440 y439) := ⟨h0_⟩
    replace HA_HO441 : Aside0 (∃ c_, (v440 : Value) = .slice (some adz_v440) y439.length c_) := ⟨h1_⟩
    replace BK438 : Aside0 (w14.heap[gb438]? = some (.cells #[.int .i64 0, .string (⟨#[]⟩ : ByteArray)] 38 (0, 0))) := ⟨h2_⟩
    replace BK447 : Aside0 (w14.heap[gb447]? = some (.cells #[.int .i64 0, .string (⟨#[]⟩ : ByteArray)] 38 (0, 0))) := ⟨h3_⟩
    replace GW447 : Aside0 (w.heap.size ≤ gb447) := ⟨h4_⟩
    replace GE447 : Aside0 (w0.heap.size ≤ gb447) := ⟨h5_⟩
    replace NB0_447 : Aside0 (g ≠ gb447) := ⟨h6_⟩
    replace NB447_0 : Aside0 (gb447 ≠ g) := ⟨h7_⟩
    replace NB438_447 : Aside0 (gb438 ≠ gb447) := ⟨h8_⟩
    replace NB447_438 : Aside0 (gb447 ≠ gb438) := ⟨h9_⟩
    replace HI0 : Aside0 (IsS131 w0 w14 g s0_0 t443) := ⟨h10_⟩
    replace HK : Aside0 (KeepBut w w14 g none) := ⟨h11_⟩
    replace HB : Aside0 (Below w0.heap.size w0 w14) := ⟨h12_⟩
    clear h0_ h1_ h2_ h3_ h4_ h5_ h6_ h7_ h8_ h9_ h10_ h11_ h12_
    have hHeld := trivial
    obtain ⟨co15, eo15⟩ := HA_HO441.out
    clear HA_HO441
    subst eo15
    refine norm_ (a' := ?_) ?_ ?_
    rotate_left
    ·simp only [putAll, Act.put, List.setIfInBounds_toArray, List.set_cons_zero, List.set_cons_succ]
     rfl
    refine one_ (i := 6) (N := some 10) #[true, true, true, true, true, true, true, false, false, false, false, true, false] rfl rfl (one_of HT_.out (by kernel_rfl)) (by decide) (fun K hK => ?_)
    refine goes_ Tryz.func82 (by kernel_rfl) rfl #[.pointer (some ⟨g, 0, none⟩), .int .i64 60] (by rfl) rfl rfl sqA ?_
    with_reducible refine (spec_l20Rd_pick.calls k g s0_0 t443 60 t445 t446 w0 _ ?side1 ?side2 A5.out).mono ?_
    (case side1 => exact Z42 HI0 NB0_438 NB0_447)
    (case side2 => exact Z44 HI0 GE438 GE447)
    rintro e w16 ⟨rfl, hi, hb, hk⟩
    refine ⟨_, rfl, ?_⟩
    replace BK438 := Aside0.mk (KeepBut.blk hk (g' := gb438) (o := .cells #[.int .i64 0, .string (⟨#[]⟩ : ByteArray)] 38 (0, 0)) (sqK BK438) NB438_0.out (by simp))
    replace HO441 := Aside0.mk (Kd.R_mono (Kd.R_keep (IsS131.apart (show IsS131 w0 _ g s0_0 t443 from by repeat (first | (with_reducible first | exact HI0.out | apply IsS131.alloc | apply IsS131.drewN | apply IsS131.drew | apply IsS131.set_1 | refine IsS131.far ?_ NB0_438.out _ | refine IsS131.far ?_ NB0_447.out _) | exact HI0.out)) (sqR HO441) (by decide)) hk (fun _ h => h.2)) (fun _ h => h.1))
    replace BK447 := Aside0.mk (KeepBut.blk hk (g' := gb447) (o := .cells #[.int .i64 0, .string (⟨#[]⟩ : ByteArray)] 38 (0, 0)) (sqK BK447) NB447_0.out (by simp))
    replace HK := Aside0.mk (KeepBut.trans (Z43 GW438 GW447) hk (.inl rfl))
    replace HB := Aside0.mk (hb)
    replace HI0 := Aside0.mk (hi)
    (try clear hb)
    (try clear hb2)
    (try clear hk)
    (try clear hi)
    refine hK.out _ _ trivial (fun hHeld => ?_)
    clear hK K
    refine sqN (some 10) ?_
    refine sqP (i := 7) (N := some 11) (h := ?_)
    refine sqP (i := 8) (N := some 12) (h := ?_)
    refine sqP (i := 9) (N := some 13) (h := ?_)
    refine sqP (i := 10) (N := some 14) (h := ?_)
    exact norm_ Z100 (hJ0_2_4_6_11 (.slice (some adz_v440) y439.length co15, adz_v440, gb447) _ ⟨(sqR HO441), ⟨_, rfl⟩, (sqK BK438), (sqK BK447), GW447.out, GE447.out, NB0_447.out, NB447_0.out, NB438_447.out, NB447_438.out, (Z42 HI0 NB0_438 NB0_447), (Z43 GW438 GW447), (Z44 HI0 GE438 GE447)⟩)
  ·skip
   rintro ⟨v440, adz_v440⟩ w14 ⟨h0_, h1_, h2_, h3_, h4_, h5_⟩
   replace HO441 : Aside0 (Kd.R (Kd.int .i64) 3 w14 w.heap.size (fun _ => True) v440 y439) := ⟨h0_⟩
   replace HA_HO441 : Aside0 (∃ c_, (v440 : Value) = .slice (some adz_v440) y439.length c_) := ⟨h1_⟩
   replace BK438 : Aside0 (w14.heap[gb438]? = some (.cells #[.int .i64 0, .string (⟨#[]⟩ : ByteArray)] 38 (0, 0))) := ⟨h2_⟩
   replace HI0 : Aside0 (IsS131 w0 w14 g s0_0 t446) := ⟨h3_⟩
   replace HK : Aside0 (KeepBut w w14 g none) := ⟨h4_⟩
   replace HB : Aside0 (Below w0.heap.size w0 w14) := ⟨h5_⟩
   clear h0_ h1_ h2_ h3_ h4_ h5_
   have hHeld := trivial
   obtain ⟨co15, eo15⟩ := HA_HO441.out
   clear HA_HO441
   subst eo15
   refine norm_ (a' := ?_) ?_ ?_
   rotate_left
   ·simp only [putAll, Act.put, List.setIfInBounds_toArray, List.set_cons_zero, List.set_cons_succ]
    rfl
   refine one_ (i := 11) (N := some 3) #[true, true, true, true, true, true, true, true, true, true, true, true, false] rfl rfl (one_of HT_.out (by kernel_rfl)) (by decide) (fun K hK => ?_)
   refine box_step ?hg (N := 3) ?hd (cs := #[.int .i64 0, .string (⟨#[]⟩ : ByteArray)]) (t := 38) ?hr ?_; (case hd => rfl); (case hg => rfl); (case hr => exact Z7)
   intro gb447 hg w16 hbox hb
   replace HO441 := sqU HO441 hb
   replace HB := Aside0.mk (below_step (Z40 HI0 GE438) hb)
   have BK447 := Aside0.mk (hbox)
   have GW447 := Aside0.mk ((Z111 GW438 : w.heap.size ≤ gb447))
   have GE447 := Aside0.mk ((Nat.le_trans HW0.out (Z111 GW438 : w.heap.size ≤ gb447) : w0.heap.size ≤ gb447))
   replace HK := Aside0.mk (KeepBut.trans (Z39 GW438) (KeepBut.of_below hb g none) (.inl rfl))
   obtain ⟨NB438_447, NB447_438⟩ := sqM hg BK438
   replace BK438 := sqT BK438 hb
   have NB0_447 := Aside0.mk ((Z105 HI0 NB0_438 : g ≠ gb447))
   have NB447_0 := Aside0.mk ((Z106 HI0 NB0_438 : gb447 ≠ g))
   replace HI0 := Aside0.mk (IsS131.below (Z41 HI0 NB0_438) hb)
   clear hb hbox hg
   refine hK.out _ _ trivial (fun hHeld => ?_)
   clear hK K
   refine sqN (some 3) ?_
   exact norm_ Z100 (hJ0_2_4_6_11 (.slice (some adz_v440) y439.length co15, adz_v440, gb447) _ ⟨(sqR HO441), ⟨_, rfl⟩, (sqK BK438), (sqK BK447), GW447.out, GE447.out, NB0_447.out, NB447_0.out, NB438_447.out, NB447_438.out, (Z42 HI0 NB0_438 NB0_447), (Z43 GW438 GW447), (Z44 HI0 GE438 GE447)⟩)
 rintro ⟨v440, adz_v440, gb447⟩ w15 ⟨h0_, h1_, h2_, h3_, h4_, h5_, h6_, h7_, h8_, h9_, h10_, h11_, h12_⟩
 replace HO441 : Aside0 (Kd.R (Kd.int .i64) 3 w15 w.heap.size (fun _ => True) v440 y439) := ⟨h0_⟩
 replace HA_HO441 : Aside0 (∃ c_, (v440 : Value) = .slice (some adz_v440) y439.length c_) := ⟨h1_⟩
 replace BK438 : Aside0 (w15.heap[gb438]? = some (.cells #[.int .i64 0, .string (⟨#[]⟩ : ByteArray)] 38 (0, 0))) := ⟨h2_⟩
 replace BK447 : Aside0 (w15.heap[gb447]? = some (.cells #[.int .i64 0, .string (⟨#[]⟩ : ByteArray)] 38 (0, 0))) := ⟨h3_⟩
 replace GW447 : Aside0 (w.heap.size ≤ gb447) := ⟨h4_⟩
 replace GE447 : Aside0 (w0.heap.size ≤ gb447) := ⟨h5_⟩
 replace NB0_447 : Aside0 (g ≠ gb447) := ⟨h6_⟩
 replace NB447_0 : Aside0 (gb447 ≠ g) := ⟨h7_⟩
 replace NB438_447 : Aside0 (gb438 ≠ gb447) := ⟨h8_⟩
 replace NB447_438 : Aside0 (gb447 ≠ gb438) := ⟨h9_⟩
 replace HI0 : Aside0 (IsS131 w0 w15 g s0_0 t446) := ⟨h10_⟩
 replace HK : Aside0 (KeepBut w w15 g none) := ⟨h11_⟩
 replace HB : Aside0 (Below w0.heap.size w0 w15) := ⟨h12_⟩
 clear h0_ h1_ h2_ h3_ h4_ h5_ h6_ h7_ h8_ h9_ h10_ h11_ h12_
 have hHeld := trivial
 obtain ⟨co16, eo16⟩ := HA_HO441.out
 clear HA_HO441
 subst eo16
 refine norm_ (a' := ?_) ?_ ?_
 rotate_left
 ·simp only [putAll, Act.put, List.setIfInBounds_toArray, List.set_cons_zero, List.set_cons_succ]
  rfl
 refine one_ (i := 12) (N := none) #[true, true, true, true, true, true, true, true, true, true, true, true, true] rfl rfl (one_of HT_.out (by kernel_rfl)) (by decide) (fun K hK => ?_)
 have hs17 : w15.cell? ⟨gb447, 0, none⟩ = some (.int .i64 0) := (blk_cell BK447.out 0).trans rfl
 have hfs17 := blk_frozen BK447.out 0
 have hns17_0 := NB438_447.out
 have hms17_0 := NB447_438.out
 have hs18 : w15.cell? ⟨gb447, 1, none⟩ = some (.string (⟨#[]⟩ : ByteArray)) := (blk_cell BK447.out 1).trans rfl
 have hfs18 := blk_frozen BK447.out 1
 have hns18_0 := NB438_447.out
 have hms18_0 := NB447_438.out
 refine skip_ (w1 := ?_) (by rfl) rfl ?_ ?_
 rotate_left
 ·go_simp
  rfl
 refine hK.out _ _ trivial (fun hHeld => ?_)
 clear hK K
 refine done_ (done_of HT_.out (by kernel_rfl)) ?_
 have hnb19 := NB447_438.out
 have hnc19 := NB438_447.out
 have hnb20 := NB447_0.out
 have hnc20 := NB0_447.out
 obtain ⟨hcz21_0, hcz21_1, hfz21_0, hfz21_1⟩ := sqY2 BK447
 go_upto_block 0 with (fail)
 go_cut [] (fun wc => ∃ (kq : Nat) (x1001_5 : Int) (x448001_5 : ByteArray), Aside0 (spec_l20Deed.j0 kq s0_0 x1001_5 (wrap64 ((rd y439 t442) + (wrap64 ((wrap64 (Int.tdiv t445 59)) * 5)))) x448001_5 = some (r1, r2, r3)) ∧ Aside0 (kq ≤ k) ∧ Aside0 (wc.heap[gb438]? = some (.cells #[.int .i64 0, .string (⟨#[]⟩ : ByteArray)] 38 (0, 0))) ∧ Aside0 (wc.heap[gb447]? = some (.cells #[.int .i64 (wrap64 ((rd y439 t442) + (wrap64 ((wrap64 (Int.tdiv t445 59)) * 5)))), .string x448001_5] 38 (0, 0))) ∧ Aside0 (IsS131 w0 wc g s0_0 x1001_5) ∧ Aside0 (KeepBut w wc g none) ∧ Aside0 (Below w0.heap.size w0 wc))
 case first =>
  have H := HC6.out
  clear HC6
  by_cases c22 : (wrap64 ((rd y439 t442) + (wrap64 ((wrap64 (Int.tdiv t445 59)) * 5)))) = 0
  ·rw [if_pos c22] at H
   have c22b0 : ((wrap64 ((rd y439 t442) + (wrap64 ((wrap64 (Int.tdiv t445 59)) * 5)))) == 0) = true := beq_iff_eq.mpr c22
   have c22b1 : ((wrap64 ((rd y439 t442) + (wrap64 ((wrap64 (Int.tdiv t445 59)) * 5)))) != 0) = false := bne_eq_false_iff_eq.mpr c22
   clear c22
   (first | rw [c22b0] | (simp only [i64_w, i32_w]; rw [c22b0]) | skip)
   obtain ⟨⟨t448, t449⟩, A23, H⟩ := sqD H
   try dsimp only at H
   have H' := Aside0.mk H
   clear H
   go_wp2_with (first | ((with_reducible refine gate_callee (f := 114) rfl ?_); refine goesL_ (some 20) rfl rfl Tryz.func114 (by kernel_rfl) rfl #[.pointer (some ⟨g, 0, none⟩), .int .i64 6, .int .i64 20] rfl sqA ?_; (with_reducible refine (spec_l20Dance.calls k g s0_0 t446 6 20 t448 t449 w0 _ ?side1 ?side2 A23.out).mono ?_); (case side1 => exact Z42 HI0 NB0_438 NB0_447); (case side2 => exact Z44 HI0 GE438 GE447); rintro e w24 ⟨rfl, hi, hb, hk⟩; refine ⟨_, rfl, ?_⟩; replace BK438 := Aside0.mk (KeepBut.blk hk (g' := gb438) (o := .cells #[.int .i64 0, .string (⟨#[]⟩ : ByteArray)] 38 (0, 0)) (Z14 NB438_447 BK438) NB438_0.out (by simp)); replace HO441 := Aside0.mk (Kd.R_mono (Kd.R_keep (IsS131.apart (show IsS131 w0 _ g s0_0 t446 from by repeat (first | (with_reducible first | exact HI0.out | apply IsS131.alloc | apply IsS131.drewN | apply IsS131.drew | apply IsS131.set_1 | refine IsS131.far ?_ NB0_438.out _ | refine IsS131.far ?_ NB0_447.out _) | exact HI0.out)) (Z107 HO441 BK447) (by decide)) hk (fun _ h => h.2)) (fun _ h => h.1)); replace BK447 := Aside0.mk (KeepBut.blk hk (g' := gb447) (o := .cells #[.int .i64 (wrap64 ((rd y439 t442) + (wrap64 ((wrap64 (Int.tdiv t445 59)) * 5)))), .string (⟨#[]⟩ : ByteArray)] 38 (0, 0)) (Z108 BK447) NB447_0.out (by simp)); replace HK := Aside0.mk (KeepBut.trans (Z43 GW438 GW447) hk (.inl rfl)); replace HB := Aside0.mk (hb); replace HI0 := Aside0.mk (hi); (try clear hb); have hnb25 := NB447_438.out; have hnc25 := NB438_447.out; have hnb26 := NB447_0.out; have hnc26 := NB0_447.out; have hcz27_0 : w24.cell? ⟨gb447, 0, none⟩ = some (.int .i64 (wrap64 ((rd y439 t442) + (wrap64 ((wrap64 (Int.tdiv t445 59)) * 5))))) := (blk_cell BK447.out 0).trans rfl; have hcz27_1 := sqZ BK447 1 (.string (⟨#[]⟩ : ByteArray)); have hfz27_0 := blk_frozen BK447.out 0; have hfz27_1 := blk_frozen BK447.out 1))
   go_meet
   case rel => exact ⟨_, (t449), (t448), H', ⟨Z16⟩, ⟨Z9 NB438_447 BK438⟩, ⟨Z109 BK447⟩, ⟨Z42 HI0 NB0_438 NB0_447⟩, ⟨Z43 GW438 GW447⟩, ⟨Z44 HI0 GE438 GE447⟩⟩
  ·rw [if_neg c22] at H
   have c22b0 : ((wrap64 ((rd y439 t442) + (wrap64 ((wrap64 (Int.tdiv t445 59)) * 5)))) == 0) = false := beq_eq_false_iff_ne.mpr c22
   have c22b1 : ((wrap64 ((rd y439 t442) + (wrap64 ((wrap64 (Int.tdiv t445 59)) * 5)))) != 0) = true := bne_iff_ne.mpr c22
   (first | rw [c22b0] | (simp only [i64_w, i32_w]; rw [c22b0]) | skip)
   by_cases c28 : (wrap64 ((rd y439 t442) + (wrap64 ((wrap64 (Int.tdiv t445 59)) * 5)))) = 1
   ·rw [if_pos c28] at H
    have c28b0 : ((wrap64 ((rd y439 t442) + (wrap64 ((wrap64 (Int.tdiv t445 59)) * 5)))) == 1) = true := beq_iff_eq.mpr c28
    have c28b1 : ((wrap64 ((rd y439 t442) + (wrap64 ((wrap64 (Int.tdiv t445 59)) * 5)))) != 1) = false := bne_eq_false_iff_eq.mpr c28
    clear c28
    obtain ⟨⟨t450, t451, t452⟩, A29, H⟩ := sqD H
    try dsimp only at H
    obtain ⟨t453, A30, H⟩ := sqD H
    have H' := Aside0.mk H
    clear H
    go_wp2_with (first | ((with_reducible refine gate_callee (f := 115) rfl ?_); refine goesL_ (some 25) rfl rfl Tryz.func115 (by kernel_rfl) rfl #[.pointer (some ⟨g, 0, none⟩)] rfl sqA ?_; (with_reducible refine (spec_l20Tied.calls k g s0_0 t446 t450 t451 t452 w0 _ ?side1 ?side2 A29.out).mono ?_); (case side1 => exact Z42 HI0 NB0_438 NB0_447); (case side2 => exact Z44 HI0 GE438 GE447); rintro e w31 ⟨rfl, hi, hb, hk⟩; refine ⟨_, rfl, ?_⟩; replace BK438 := Aside0.mk (KeepBut.blk hk (g' := gb438) (o := .cells #[.int .i64 0, .string (⟨#[]⟩ : ByteArray)] 38 (0, 0)) (Z14 NB438_447 BK438) NB438_0.out (by simp)); replace HO441 := Aside0.mk (Kd.R_mono (Kd.R_keep (IsS131.apart (show IsS131 w0 _ g s0_0 t446 from by repeat (first | (with_reducible first | exact HI0.out | apply IsS131.alloc | apply IsS131.drewN | apply IsS131.drew | apply IsS131.set_1 | refine IsS131.far ?_ NB0_438.out _ | refine IsS131.far ?_ NB0_447.out _) | exact HI0.out)) (Z107 HO441 BK447) (by decide)) hk (fun _ h => h.2)) (fun _ h => h.1)); replace BK447 := Aside0.mk (KeepBut.blk hk (g' := gb447) (o := .cells #[.int .i64 (wrap64 ((rd y439 t442) + (wrap64 ((wrap64 (Int.tdiv t445 59)) * 5)))), .string (⟨#[]⟩ : ByteArray)] 38 (0, 0)) (Z108 BK447) NB447_0.out (by simp)); replace HK := Aside0.mk (KeepBut.trans (Z43 GW438 GW447) hk (.inl rfl)); replace HB := Aside0.mk (hb); replace HI0 := Aside0.mk (hi); (try clear hb)) | ((with_reducible refine gate_callee (f := 89) rfl ?_); refine goesL_ (some 26) rfl rfl Tryz.func89 (by kernel_rfl) rfl #[.agg #[.int .i64 t450, .int .i64 t451]] rfl sqA ?_; (with_reducible refine (spec_FractionText.calls k t450 t451 t453 _ A30.out).mono ?_); rintro e w32 ⟨rfl, hb⟩; refine ⟨_, rfl, ?_⟩; replace HO441 := sqU HO441 hb; replace BK438 := sqT BK438 hb; replace BK447 := sqT BK447 hb; replace HK := Aside0.mk (KeepBut.trans (Z43 GW438 GW447) (KeepBut.of_below hb g none) (.inl rfl)); replace HB := Aside0.mk (below_step (Z44 HI0 GE438 GE447) hb); replace HI0 := Aside0.mk (IsS131.below (Z42 HI0 NB0_438 NB0_447) hb); (try clear hb); have hnb33 := NB447_438.out; have hnc33 := NB438_447.out; have hnb34 := NB447_0.out; have hnc34 := NB0_447.out; have hcz35_0 : w32.cell? ⟨gb447, 0, none⟩ = some (.int .i64 (wrap64 ((rd y439 t442) + (wrap64 ((wrap64 (Int.tdiv t445 59)) * 5))))) := (blk_cell BK447.out 0).trans rfl; have hcz35_1 := sqZ BK447 1 (.string (⟨#[]⟩ : ByteArray)); have hfz35_0 := blk_frozen BK447.out 0; have hfz35_1 := blk_frozen BK447.out 1))
    go_meet
    case rel => exact ⟨_, (t452), (t453), H', ⟨Z16⟩, ⟨Z9 NB438_447 BK438⟩, ⟨Z109 BK447⟩, ⟨Z42 HI0 NB0_438 NB0_447⟩, ⟨Z43 GW438 GW447⟩, ⟨Z44 HI0 GE438 GE447⟩⟩
   ·rw [if_neg c28] at H
    have c28b0 : ((wrap64 ((rd y439 t442) + (wrap64 ((wrap64 (Int.tdiv t445 59)) * 5)))) == 1) = false := beq_eq_false_iff_ne.mpr c28
    have c28b1 : ((wrap64 ((rd y439 t442) + (wrap64 ((wrap64 (Int.tdiv t445 59)) * 5)))) != 1) = true := bne_iff_ne.mpr c28
    have H' := Aside0.mk H
    clear H
    go_wp2
    go_meet
    case rel => exact ⟨_, (t446), ((⟨#[]⟩ : ByteArray)), H', ⟨Z16⟩, ⟨Z14 NB438_447 BK438⟩, ⟨Z108 BK447⟩, ⟨Z42 HI0 NB0_438 NB0_447⟩, ⟨Z43 GW438 GW447⟩, ⟨Z44 HI0 GE438 GE447⟩⟩
 case rest =>
  clear HC6
  try clear c1; try clear c2; try clear p2; try clear c3; try clear p4; try clear q4; try clear hx4; try clear p6; try clear c8; try clear c11; try clear c19; try clear c20; try clear c22; try clear c22b0; try clear c22b1; try clear c25; try clear c26; try clear c28; try clear c28b0; try clear c28b1; try clear c33; try clear c34; try clear hcz21_0; try clear hcz21_1; try clear hcz27_0; try clear hcz27_1; try clear hcz35_0; try clear hcz35_1; try clear hfz21_0; try clear hfz21_1; try clear hfz27_0; try clear hfz27_1; try clear hfz35_0; try clear hfz35_1; try clear hx444_0; try clear p444; try clear q444
  obtain ⟨kq, x1001_5, x448001_5, HA, HJ5, BK438, BK447, HI0, HK, HB⟩ := hcut
  cases kq with
  | zero => exact absurd HA.out (by simp [spec_l20Deed.j0])
  | succ kj5 =>
   have H := HA.out
   clear HA
   simp only [spec_l20Deed.j0] at H
   obtain ⟨⟨t454, t455⟩, A36, H⟩ := sqD H
   try dsimp only at H
   by_cases c37 : t454 = true
   ·subst c37
    rw [if_pos rfl] at H
    obtain ⟨c38, H⟩ := sqI H
    have c38b0 := eq_true c38
    have c38b1 : decide (x448001_5.size + 1 ≤ 9223372036854775807) = true := decide_eq_true c38
    try have c38b2 : (9223372036854775807 < x448001_5.size + 1) = False := eq_false (Nat.not_lt.2 c38)
    obtain ⟨rfl, rfl, rfl⟩ := sqO3 H
    go_wp2_with (first | ((with_reducible refine gate_callee (f := 74) rfl ?_); refine goesL_ (some 29) rfl rfl Tryz.func74 (by kernel_rfl) rfl #[.pointer (some ⟨g, 0, none⟩), .int .i64 40] rfl sqA ?_; (with_reducible refine (spec_l20Rd_odd.calls kj5 g s0_0 x1001_5 40 true t455 w0 _ ?side1 ?side2 A36.out).mono ?_); (case side1 => exact Z42 HI0 NB0_438 NB0_447); (case side2 => exact Z44 HI0 GE438 GE447); rintro e w39 ⟨rfl, hi, hb, hk⟩; refine ⟨_, rfl, ?_⟩; replace BK438 := Aside0.mk (KeepBut.blk hk (g' := gb438) (o := .cells #[.int .i64 0, .string (⟨#[]⟩ : ByteArray)] 38 (0, 0)) (sqK BK438) NB438_0.out (by simp)); replace BK447 := Aside0.mk (KeepBut.blk hk (g' := gb447) (o := .cells #[.int .i64 (wrap64 ((rd y439 t442) + (wrap64 ((wrap64 (Int.tdiv t445 59)) * 5)))), .string x448001_5] 38 (0, 0)) (sqK BK447) NB447_0.out (by simp)); replace HK := Aside0.mk (KeepBut.trans (Z43 GW438 GW447) hk (.inl rfl)); replace HB := Aside0.mk (hb); replace HI0 := Aside0.mk (hi); (try clear hb); have hnb40 := NB447_438.out; have hnc40 := NB438_447.out; have hnb41 := NB447_0.out; have hnc41 := NB0_447.out; have hcz42_0 : w39.cell? ⟨gb447, 0, none⟩ = some (.int .i64 (wrap64 ((rd y439 t442) + (wrap64 ((wrap64 (Int.tdiv t445 59)) * 5))))) := (blk_cell BK447.out 0).trans rfl; have hcz42_1 := sqZ BK447 1 (.string x448001_5); have hfz42_0 := blk_frozen BK447.out 0; have hfz42_1 := blk_frozen BK447.out 1; have hnb43 := NB438_0.out; have hnc43 := NB0_438.out; obtain ⟨hcz44_0, hcz44_1, hfz44_0, hfz44_1⟩ := sqY2 BK438))
    refine bodyPost_ret (results_cell_row rfl _ _ gb438 38 #[.int .i64 (wrap64 ((rd y439 t442) + (wrap64 ((wrap64 (Int.tdiv t445 59)) * 5)))), .string (x448001_5 ++ (⟨#[120]⟩ : ByteArray))] (0, 0) _ rfl (by refine sqPut (cs := #[.int .i64 (wrap64 ((rd y439 t442) + (wrap64 ((wrap64 (Int.tdiv t445 59)) * 5)))), .string (⟨#[]⟩ : ByteArray)]) ?_ 1; refine sqPut (cs := #[.int .i64 0, .string (⟨#[]⟩ : ByteArray)]) ?_ 0; refine sqFar ?_ NB438_447; exact sqK BK438) Tryz.underlying38 rfl (by kernel_rfl)) rfl ?_
    exact ⟨Z3, Z42 HI0 NB0_438 NB0_447, Z44 HI0 GE438 GE447, Z43 GW438 GW447⟩
   ·replace c37 := Bool.eq_false_iff.mpr c37
    subst c37
    rw [if_neg sqF] at H
    obtain ⟨rfl, rfl, rfl⟩ := sqO3 H
    go_wp2_with (first | ((with_reducible refine gate_callee (f := 74) rfl ?_); refine goesL_ (some 29) rfl rfl Tryz.func74 (by kernel_rfl) rfl #[.pointer (some ⟨g, 0, none⟩), .int .i64 40] rfl sqA ?_; (with_reducible refine (spec_l20Rd_odd.calls kj5 g s0_0 x1001_5 40 false t455 w0 _ ?side1 ?side2 A36.out).mono ?_); (case side1 => exact Z42 HI0 NB0_438 NB0_447); (case side2 => exact Z44 HI0 GE438 GE447); rintro e w45 ⟨rfl, hi, hb, hk⟩; refine ⟨_, rfl, ?_⟩; replace BK438 := Aside0.mk (KeepBut.blk hk (g' := gb438) (o := .cells #[.int .i64 0, .string (⟨#[]⟩ : ByteArray)] 38 (0, 0)) (sqK BK438) NB438_0.out (by simp)); replace BK447 := Aside0.mk (KeepBut.blk hk (g' := gb447) (o := .cells #[.int .i64 (wrap64 ((rd y439 t442) + (wrap64 ((wrap64 (Int.tdiv t445 59)) * 5)))), .string x448001_5] 38 (0, 0)) (sqK BK447) NB447_0.out (by simp)); replace HK := Aside0.mk (KeepBut.trans (Z43 GW438 GW447) hk (.inl rfl)); replace HB := Aside0.mk (hb); replace HI0 := Aside0.mk (hi); (try clear hb); have hnb46 := NB447_438.out; have hnc46 := NB438_447.out; have hnb47 := NB447_0.out; have hnc47 := NB0_447.out; have hcz48_0 : w45.cell? ⟨gb447, 0, none⟩ = some (.int .i64 (wrap64 ((rd y439 t442) + (wrap64 ((wrap64 (Int.tdiv t445 59)) * 5))))) := (blk_cell BK447.out 0).trans rfl; have hcz48_1 := sqZ BK447 1 (.string x448001_5); have hfz48_0 := blk_frozen BK447.out 0; have hfz48_1 := blk_frozen BK447.out 1; have hnb49 := NB438_0.out; have hnc49 := NB0_438.out; obtain ⟨hcz50_0, hcz50_1, hfz50_0, hfz50_1⟩ := sqY2 BK438))
    refine bodyPost_ret (results_cell_row rfl _ _ gb438 38 #[.int .i64 (wrap64 ((rd y439 t442) + (wrap64 ((wrap64 (Int.tdiv t445 59)) * 5)))), .string x448001_5] (0, 0) _ rfl (Z108 BK438) Tryz.underlying38 rfl (by kernel_rfl)) rfl ?_
    exact ⟨Z3, Z42 HI0 NB0_438 NB0_447, Z44 HI0 GE438 GE447, Z43 GW438 GW447⟩

end Go.Proofs.YtofmlbgfcohhoaaGreatDoor.PFnDeskDo
