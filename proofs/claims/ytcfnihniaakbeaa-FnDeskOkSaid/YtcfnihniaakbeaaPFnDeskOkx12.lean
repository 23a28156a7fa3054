/- Lean functions of the Go functions that the law FnDeskOk reaches, each with its contract: made by a program of this session. -/
import Derived.Test.YtcfnihniaakbeaaPFnDeskOkx0
import Derived.Test.YtcfnihniaakbeaaPFnDeskOkx3
import Derived.Test.YtcfnihniaakbeaaPFnDeskOkx7
import Derived.Test.YtcfnihniaakbeaaPFnDeskOkx10
import Derived.Test.YtcfnihniaakbeaaPFnDeskOkx11
namespace Go.Proofs.Ytcfnihniaakbeaa.PFnDeskOk
open Go.RowKit Go.Proofs.YtcfnihniaakbeaaW.PrintWords Go.Proofs.YtcfnihniaakbeaaW.PrintLast Go.Proofs.YtcfnihniaakbeaaW.PrintMore
attribute [local go_sem] max2_int min2_int max_two min_two max_three min_three max_four min_four   -- for this text's walks alone
set_option linter.unusedVariables false
set_option linter.unusedSimpArgs false

/-! ### spec_l20Deed: function 17 -/
def spec_l20Deed.j0 : Nat → List Int → Int → Int → ByteArray → Option (Int × ByteArray × Int)
 | 0, _, _, _, _ => none
 | k + 1, x1000, x1001, x322000, x322001 => (spec_l20Rd_odd.f k x1000 x1001 40).bind fun bt328 => (if bt328.1 = true then (if x322001.size + 1 ≤ 9223372036854775807 then (some (x322000, x322001 ++ (⟨#[120]⟩ : ByteArray), bt328.2)) else (none)) else (some (x322000, x322001, bt328.2)))
def spec_l20Deed.f (k : Nat) (s0_0 : List Int) (s0_1 : Int) : Option (Int × ByteArray × Int) := (some (([0, 0, 0, 1, 1, 2, 3, 4] : List Int) : List Int)).bind fun y313 => ((spec_l20Rd_pick.f k s0_0 s0_1 8).bind fun bt316 => (if 0 ≤ bt316.1 then (if bt316.1 < (y313.length : Int) then ((spec_l20Rd_pick.f k s0_0 bt316.2 60).bind fun bt319 => (if (wrap64 ((rd y313 bt316.1) + (wrap64 ((wrap64 (Int.tdiv bt319.1 59)) * 5)))) = 0 then ((spec_l20Dance.f k s0_0 bt319.2 6 20).bind fun bt322 => (spec_l20Deed.j0 k s0_0 bt322.2 (wrap64 ((rd y313 bt316.1) + (wrap64 ((wrap64 (Int.tdiv bt319.1 59)) * 5)))) bt322.1)) else (if (wrap64 ((rd y313 bt316.1) + (wrap64 ((wrap64 (Int.tdiv bt319.1 59)) * 5)))) = 1 then ((spec_l20Tied.f k s0_0 bt319.2).bind fun bt324 => ((spec_FractionText.f k bt324.1 bt324.2.1).bind fun t327 => (spec_l20Deed.j0 k s0_0 bt324.2.2 (wrap64 ((rd y313 bt316.1) + (wrap64 ((wrap64 (Int.tdiv bt319.1 59)) * 5)))) t327))) else (spec_l20Deed.j0 k s0_0 bt319.2 (wrap64 ((rd y313 bt316.1) + (wrap64 ((wrap64 (Int.tdiv bt319.1 59)) * 5)))) (⟨#[]⟩ : ByteArray))))) else (none)) else (none)))
theorem spec_l20Deed.mono_l : ∀ k, (∀ y0 y1 y2 y3, LeO (spec_l20Deed.j0 k y0 y1 y2 y3) (spec_l20Deed.j0 (k + 1) y0 y1 y2 y3))
 | 0 => fun _ _ _ _ r h => by simp [spec_l20Deed.j0] at h
 | k + 1 => by
  have ih0 := spec_l20Deed.mono_l k
  ·intro y0 y1 y2 y3
   unfold spec_l20Deed.j0
   repeat' first
   | (with_reducible exact ih0 _ _ _ _)
   | (with_reducible exact spec_FractionText.mono _ _ _)
   | (with_reducible exact spec_l20Dance.mono _ _ _ _ _)
   | (with_reducible exact spec_l20Rd_odd.mono _ _ _ _)
   | (with_reducible exact spec_l20Rd_pick.mono _ _ _ _)
   | (with_reducible exact spec_l20Tied.mono _ _ _)
   | (with_reducible exact LeO.refl _)
   | (with_reducible exact LeO.none _)
   | (with_reducible refine LeO.ite ?_ ?_)
   | (with_reducible refine LeO.bind ?_ (fun _ => ?_))
theorem spec_l20Deed.mono : ∀ a0 a1 k, LeO (spec_l20Deed.f k a0 a1) (spec_l20Deed.f (k + 1) a0 a1) := by
 intro a0 a1 k
 have ih0 := spec_l20Deed.mono_l k
 unfold spec_l20Deed.f
 repeat' first
   | (with_reducible exact ih0 _ _ _ _)
   | (with_reducible exact spec_FractionText.mono _ _ _)
   | (with_reducible exact spec_l20Dance.mono _ _ _ _ _)
   | (with_reducible exact spec_l20Rd_odd.mono _ _ _ _)
   | (with_reducible exact spec_l20Rd_pick.mono _ _ _ _)
   | (with_reducible exact spec_l20Tied.mono _ _ _)
   | (with_reducible exact LeO.refl _)
   | (with_reducible exact LeO.none _)
   | (with_reducible refine LeO.ite ?_ ?_)
   | (with_reducible refine LeO.bind ?_ (fun _ => ?_))
def spec_l20Deed.T1 : Bool × List (List Nat × List Nat) := (true, [([], []), ([], []), ([1], [1]), ([0, 2], [0, 2]), ([3], [3]), ([], []), ([5, 2], [5]), ([6], [6]), ([7], [7]), ([4, 8], [4, 8]), ([9], [9]), ([], []), ([11, 10, 6, 0, 1, 2, 3, 4, 5, 6, 7, 8, 9, 10, 11], [10, 11])])
def spec_l20Deed.B1 : List Nat := [0, 0, 2, 7, 15, 0, 38, 102, 230, 511, 1023, 0, 4095]
theorem spec_l20Deed.tab1 : rtab .any (opsOf Try.f17 1) = spec_l20Deed.T1 := by kernel_rfl
theorem spec_l20Deed.bits1 : waitsOk spec_l20Deed.T1.2 spec_l20Deed.B1 = true := by kernel_rfl
set_option maxHeartbeats 8000000 in
set_option maxRecDepth 100000 in
theorem spec_l20Deed.calls (k : Nat) (g : Nat) (s0_0 : List Int) (s0_1 : Int) (r1 : Int) (r2 : ByteArray) (r3 : Int) (w0 w : World) (hI : IsS46 w0 w g s0_0 s0_1) (hB : Below w0.heap.size w0 w) (h : spec_l20Deed.f k s0_0 s0_1 = some (r1, r2, r3)) :
  Calls Try.prog 17 #[.pointer (some ⟨g, 0, none⟩)] w fun e w' => e = .returned (.agg #[.int .i64 r1, .string r2]) ∧ IsS46 w0 w' g s0_0 r3 ∧ Below w0.heap.size w0 w' ∧ KeepBut w w' g none := by
 have hu42 := Try.underlying42
 have HI0 := Aside0.mk hI
 have HK := Aside0.mk (KeepBut.refl w g none)
 have HL := Aside0.mk hB.size
 clear hI
 have HW0 := Aside0.mk hB.size
 have HB := Aside0.mk hB
 clear hB
 have H : ((some (([0, 0, 0, 1, 1, 2, 3, 4] : List Int) : List Int)).bind fun y313 => ((spec_l20Rd_pick.f k s0_0 s0_1 8).bind fun bt316 => (if 0 ≤ bt316.1 then (if bt316.1 < (y313.length : Int) then ((spec_l20Rd_pick.f k s0_0 bt316.2 60).bind fun bt319 => (if (wrap64 ((rd y313 bt316.1) + (wrap64 ((wrap64 (Int.tdiv bt319.1 59)) * 5)))) = 0 then ((spec_l20Dance.f k s0_0 bt319.2 6 20).bind fun bt322 => (spec_l20Deed.j0 k s0_0 bt322.2 (wrap64 ((rd y313 bt316.1) + (wrap64 ((wrap64 (Int.tdiv bt319.1 59)) * 5)))) bt322.1)) else (if (wrap64 ((rd y313 bt316.1) + (wrap64 ((wrap64 (Int.tdiv bt319.1 59)) * 5)))) = 1 then ((spec_l20Tied.f k s0_0 bt319.2).bind fun bt324 => ((spec_FractionText.f k bt324.1 bt324.2.1).bind fun t327 => (spec_l20Deed.j0 k s0_0 bt324.2.2 (wrap64 ((rd y313 bt316.1) + (wrap64 ((wrap64 (Int.tdiv bt319.1 59)) * 5)))) t327))) else (spec_l20Deed.j0 k s0_0 bt319.2 (wrap64 ((rd y313 bt316.1) + (wrap64 ((wrap64 (Int.tdiv bt319.1 59)) * 5)))) (⟨#[]⟩ : ByteArray))))) else (none)) else (none)))) = some (r1, r2, r3) := h
 clear h
 obtain ⟨y313, hy313⟩ : ∃ y_ : List Int, y_ = (([0, 0, 0, 1, 1, 2, 3, 4] : List Int)) := ⟨_, rfl⟩
 replace H : ((spec_l20Rd_pick.f k s0_0 s0_1 8).bind fun bt316 => (if 0 ≤ bt316.1 then (if bt316.1 < (y313.length : Int) then ((spec_l20Rd_pick.f k s0_0 bt316.2 60).bind fun bt319 => (if (wrap64 ((rd y313 bt316.1) + (wrap64 ((wrap64 (Int.tdiv bt319.1 59)) * 5)))) = 0 then ((spec_l20Dance.f k s0_0 bt319.2 6 20).bind fun bt322 => (spec_l20Deed.j0 k s0_0 bt322.2 (wrap64 ((rd y313 bt316.1) + (wrap64 ((wrap64 (Int.tdiv bt319.1 59)) * 5)))) bt322.1)) else (if (wrap64 ((rd y313 bt316.1) + (wrap64 ((wrap64 (Int.tdiv bt319.1 59)) * 5)))) = 1 then ((spec_l20Tied.f k s0_0 bt319.2).bind fun bt324 => ((spec_FractionText.f k bt324.1 bt324.2.1).bind fun t327 => (spec_l20Deed.j0 k s0_0 bt324.2.2 (wrap64 ((rd y313 bt316.1) + (wrap64 ((wrap64 (Int.tdiv bt319.1 59)) * 5)))) t327))) else (spec_l20Deed.j0 k s0_0 bt319.2 (wrap64 ((rd y313 bt316.1) + (wrap64 ((wrap64 (Int.tdiv bt319.1 59)) * 5)))) (⟨#[]⟩ : ByteArray))))) else (none)) else (none))) = some (r1, r2, r3) := by first | (rw [hy313]; with_reducible exact H) | (have H2_ := (Option.bind_some _ _).symm.trans H; rw [hy313]; with_reducible exact H2_) | (have H2_ := (Option.bind_some _ _).symm.trans H; with_reducible exact H2_) | with_reducible exact H | (rw [hy313]; exact H) | exact H
 have Ny313 := Aside0.mk hy313
 clear hy313
 replace H := Option.bind_eq_some_iff.mp H
 obtain ⟨⟨t316, t317⟩, A20, H⟩ := H
 replace H : (if 0 ≤ t316 then (if t316 < (y313.length : Int) then ((spec_l20Rd_pick.f k s0_0 t317 60).bind fun bt319 => (if (wrap64 ((rd y313 t316) + (wrap64 ((wrap64 (Int.tdiv bt319.1 59)) * 5)))) = 0 then ((spec_l20Dance.f k s0_0 bt319.2 6 20).bind fun bt322 => (spec_l20Deed.j0 k s0_0 bt322.2 (wrap64 ((rd y313 t316) + (wrap64 ((wrap64 (Int.tdiv bt319.1 59)) * 5)))) bt322.1)) else (if (wrap64 ((rd y313 t316) + (wrap64 ((wrap64 (Int.tdiv bt319.1 59)) * 5)))) = 1 then ((spec_l20Tied.f k s0_0 bt319.2).bind fun bt324 => ((spec_FractionText.f k bt324.1 bt324.2.1).bind fun t327 => (spec_l20Deed.j0 k s0_0 bt324.2.2 (wrap64 ((rd y313 t316) + (wrap64 ((wrap64 (Int.tdiv bt319.1 59)) * 5)))) t327))) else (spec_l20Deed.j0 k s0_0 bt319.2 (wrap64 ((rd y313 t316) + (wrap64 ((wrap64 (Int.tdiv bt319.1 59)) * 5)))) (⟨#[]⟩ : ByteArray))))) else (none)) else (none)) = some (r1, r2, r3) := H
 have A2 := Aside0.mk A20
 clear A20
 by_cases c3 : 0 ≤ t316
 ·rw [if_pos c3] at H
  have c3b0 : decide (0 ≤ t316) = true := decide_eq_true c3
  clear c3
  by_cases c4 : t316 < (y313.length : Int)
  ·rw [if_pos c4] at H
   have c4b0 : decide (t316 < (y313.length : Int)) = true := decide_eq_true c4
   clear c4
   replace H := Option.bind_eq_some_iff.mp H
   obtain ⟨⟨t319, t320⟩, A50, H⟩ := H
   replace H : (if (wrap64 ((rd y313 t316) + (wrap64 ((wrap64 (Int.tdiv t319 59)) * 5)))) = 0 then ((spec_l20Dance.f k s0_0 t320 6 20).bind fun bt322 => (spec_l20Deed.j0 k s0_0 bt322.2 (wrap64 ((rd y313 t316) + (wrap64 ((wrap64 (Int.tdiv t319 59)) * 5)))) bt322.1)) else (if (wrap64 ((rd y313 t316) + (wrap64 ((wrap64 (Int.tdiv t319 59)) * 5)))) = 1 then ((spec_l20Tied.f k s0_0 t320).bind fun bt324 => ((spec_FractionText.f k bt324.1 bt324.2.1).bind fun t327 => (spec_l20Deed.j0 k s0_0 bt324.2.2 (wrap64 ((rd y313 t316) + (wrap64 ((wrap64 (Int.tdiv t319 59)) * 5)))) t327))) else (spec_l20Deed.j0 k s0_0 t320 (wrap64 ((rd y313 t316) + (wrap64 ((wrap64 (Int.tdiv t319 59)) * 5)))) (⟨#[]⟩ : ByteArray)))) = some (r1, r2, r3) := H
   have A5 := Aside0.mk A50
   clear A50
   have HC6 := Aside0.mk H
   clear H
   go_enter Try.func17, Try.ntmps17
   try go_wp2_with (first | ((with_reducible refine gate_dst (N := 2) rfl ?_); refine sqBox (N := 2) (cs := #[.int .i64 0, .string (⟨#[]⟩ : ByteArray)]) (t := 42) ?_; intro gb312 hg w7 BK312 hb; replace HB := Aside0.mk (below_step (Z20 HI0) hb); have GW312 := Aside0.mk ((Z77 : w.heap.size ≤ gb312)); have GE312 := Aside0.mk ((Nat.le_trans HW0.out (Z77 : w.heap.size ≤ gb312) : w0.heap.size ≤ gb312)); replace HK := Aside0.mk (KeepBut.trans Z21 (KeepBut.of_below hb g none) (.inl rfl)); have NB0_312 := Aside0.mk ((Z35 HI0 : g ≠ gb312)); have NB312_0 := Aside0.mk ((Z36 HI0 : gb312 ≠ g)); replace HI0 := Aside0.mk (IsS46.below (Z19 HI0) hb); clear hb hg))
   have pi318 : (0 ≤ (t316 : Int)) = True := eq_true (of_decide_eq_true Z7)
   have qi318 : (t316 < (y313.length : Int)) = True := eq_true (of_decide_eq_true Z7)
   replace BK312 := Aside0.mk (blk_drew BK312.out)
   replace HI0 := Aside0.mk (IsS46.drew HI0.out)
   replace HK := Aside0.mk (keep_drew HK.out)
   replace HB := Aside0.mk (below_drew1 HB.out)
   refine start_ (n := 13) (S := fun w' => True) (ds := []) #[false, false, false, false, false, false, false, false, false, false, false, false, false] (by kernel_rfl) rfl rfl trivial (fun hHeld => ?_); refine with_tabW spec_l20Deed.tab1 spec_l20Deed.bits1 (fun HT_ HW_ => ?_)
   generalize w7.drew = w8 at BK312 HI0 HK HB hHeld ⊢
   refine sqP (i := 1) (N := some 5) (h := ?_)
   refine sqP (i := 5) (N := some 9) (h := ?_)
   refine join_ (σ := Value × Addr × Nat) 1 #[true, true, true, true, true, true, true, true, true, true, true, true, false] (fun s_ => [(4, s_.1), (6, .int .i64 t316), (8, .int .i64 (rd y313 t316)), (10, .int .i64 t319), (3, .pointer (some ⟨s_.2.2, 0, none⟩)), (7, .pointer (some (s_.2.1.add (t316).toNat))), (11, .int .i64 (wrap64 (Int.tdiv t319 59))), (12, .int .i64 (wrap64 ((wrap64 (Int.tdiv t319 59)) * 5))), (13, .int .i64 (wrap64 ((rd y313 t316) + (wrap64 ((wrap64 (Int.tdiv t319 59)) * 5))))), (14, .agg #[.int .i64 (wrap64 ((rd y313 t316) + (wrap64 ((wrap64 (Int.tdiv t319 59)) * 5)))), .string (⟨#[]⟩ : ByteArray)])]) (fun s_ w' => (Kd.R (Kd.int .i64) 3 w' w.heap.size (fun _ => True) s_.1 y313) ∧ (∃ c_, (s_.1 : Value) = .slice (some s_.2.1) y313.length c_) ∧ (w'.heap[gb312]? = some (.cells #[.int .i64 0, .string (⟨#[]⟩ : ByteArray)] 42 (0, 0))) ∧ (w'.heap[s_.2.2]? = some (.cells #[.int .i64 0, .string (⟨#[]⟩ : ByteArray)] 42 (0, 0))) ∧ (w.heap.size ≤ s_.2.2) ∧ (w0.heap.size ≤ s_.2.2) ∧ (g ≠ s_.2.2) ∧ (s_.2.2 ≠ g) ∧ (gb312 ≠ s_.2.2) ∧ (s_.2.2 ≠ gb312) ∧ (IsS46 w0 w' g s0_0 t320) ∧ (KeepBut w w' g none) ∧ (Below w0.heap.size w0 w')) ?_ ?_
   rotate_left
   ·intro hJ0_2_4_6_11
    refine join_ (σ := Value × Addr) 2 #[true, true, true, true, true, true, true, true, true, true, true, false, false] (fun s_ => [(4, s_.1), (6, .int .i64 t316), (8, .int .i64 (rd y313 t316)), (10, .int .i64 t319), (7, .pointer (some (s_.2.add (t316).toNat))), (11, .int .i64 (wrap64 (Int.tdiv t319 59))), (12, .int .i64 (wrap64 ((wrap64 (Int.tdiv t319 59)) * 5))), (13, .int .i64 (wrap64 ((rd y313 t316) + (wrap64 ((wrap64 (Int.tdiv t319 59)) * 5))))), (14, .agg #[.int .i64 (wrap64 ((rd y313 t316) + (wrap64 ((wrap64 (Int.tdiv t319 59)) * 5)))), .string (⟨#[]⟩ : ByteArray)])]) (fun s_ w' => (Kd.R (Kd.int .i64) 3 w' w.heap.size (fun _ => True) s_.1 y313) ∧ (∃ c_, (s_.1 : Value) = .slice (some s_.2) y313.length c_) ∧ (w'.heap[gb312]? = some (.cells #[.int .i64 0, .string (⟨#[]⟩ : ByteArray)] 42 (0, 0))) ∧ (IsS46 w0 w' g s0_0 t320) ∧ (KeepBut w w' g none) ∧ (Below w0.heap.size w0 w')) ?_ ?_
    rotate_left
    ·intro hJ0_2_4_6
     refine join_ (σ := Value × Addr × Nat) 6 #[true, true, true, true, true, true, false, false, false, false, false, true, false] (fun s_ => [(4, s_.1), (6, .int .i64 t316), (8, .int .i64 (rd y313 t316)), (3, .pointer (some ⟨s_.2.2, 0, none⟩)), (7, .pointer (some (s_.2.1.add (t316).toNat)))]) (fun s_ w' => (Kd.R (Kd.int .i64) 3 w' w.heap.size (fun _ => True) s_.1 y313) ∧ (∃ c_, (s_.1 : Value) = .slice (some s_.2.1) y313.length c_) ∧ (w'.heap[gb312]? = some (.cells #[.int .i64 0, .string (⟨#[]⟩ : ByteArray)] 42 (0, 0))) ∧ (w'.heap[s_.2.2]? = some (.cells #[.int .i64 0, .string (⟨#[]⟩ : ByteArray)] 42 (0, 0))) ∧ (w.heap.size ≤ s_.2.2) ∧ (w0.heap.size ≤ s_.2.2) ∧ (g ≠ s_.2.2) ∧ (s_.2.2 ≠ g) ∧ (gb312 ≠ s_.2.2) ∧ (s_.2.2 ≠ gb312) ∧ (IsS46 w0 w' g s0_0 t317) ∧ (KeepBut w w' g none) ∧ (Below w0.heap.size w0 w')) ?_ ?_
     rotate_left
     ·intro hJ0_2_4_11
      refine join_ (σ := Value × Addr × Nat) 4 #[true, true, true, true, false, true, true, true, true, false, false, true, false] (fun s_ => [(4, s_.1), (6, .int .i64 t316), (10, .int .i64 t319), (3, .pointer (some ⟨s_.2.2, 0, none⟩)), (7, .pointer (some (s_.2.1.add (t316).toNat))), (11, .int .i64 (wrap64 (Int.tdiv t319 59))), (12, .int .i64 (wrap64 ((wrap64 (Int.tdiv t319 59)) * 5)))]) (fun s_ w' => (Kd.R (Kd.int .i64) 3 w' w.heap.size (fun _ => True) s_.1 y313) ∧ (∃ c_, (s_.1 : Value) = .slice (some s_.2.1) y313.length c_) ∧ (w'.heap[gb312]? = some (.cells #[.int .i64 0, .string (⟨#[]⟩ : ByteArray)] 42 (0, 0))) ∧ (w'.heap[s_.2.2]? = some (.cells #[.int .i64 0, .string (⟨#[]⟩ : ByteArray)] 42 (0, 0))) ∧ (w.heap.size ≤ s_.2.2) ∧ (w0.heap.size ≤ s_.2.2) ∧ (g ≠ s_.2.2) ∧ (s_.2.2 ≠ g) ∧ (gb312 ≠ s_.2.2) ∧ (s_.2.2 ≠ gb312) ∧ (IsS46 w0 w' g s0_0 t320) ∧ (KeepBut w w' g none) ∧ (Below w0.heap.size w0 w')) ?_ ?_
      rotate_left
      ·intro hJ0_2_6_11
       refine join_ (σ := Value × Addr) 7 #[true, true, true, true, true, true, false, false, false, false, false, false, false] (fun s_ => [(4, s_.1), (6, .int .i64 t316), (8, .int .i64 (rd y313 t316)), (7, .pointer (some (s_.2.add (t316).toNat)))]) (fun s_ w' => (Kd.R (Kd.int .i64) 3 w' w.heap.size (fun _ => True) s_.1 y313) ∧ (∃ c_, (s_.1 : Value) = .slice (some s_.2) y313.length c_) ∧ (w'.heap[gb312]? = some (.cells #[.int .i64 0, .string (⟨#[]⟩ : ByteArray)] 42 (0, 0))) ∧ (IsS46 w0 w' g s0_0 t317) ∧ (KeepBut w w' g none) ∧ (Below w0.heap.size w0 w')) ?_ ?_
       rotate_left
       ·intro hJ0_2_4
        refine join_ (σ := Value × Addr) 5 #[true, true, true, true, false, true, true, true, true, false, false, false, false] (fun s_ => [(4, s_.1), (6, .int .i64 t316), (10, .int .i64 t319), (7, .pointer (some (s_.2.add (t316).toNat))), (11, .int .i64 (wrap64 (Int.tdiv t319 59))), (12, .int .i64 (wrap64 ((wrap64 (Int.tdiv t319 59)) * 5)))]) (fun s_ w' => (Kd.R (Kd.int .i64) 3 w' w.heap.size (fun _ => True) s_.1 y313) ∧ (∃ c_, (s_.1 : Value) = .slice (some s_.2) y313.length c_) ∧ (w'.heap[gb312]? = some (.cells #[.int .i64 0, .string (⟨#[]⟩ : ByteArray)] 42 (0, 0))) ∧ (IsS46 w0 w' g s0_0 t320) ∧ (KeepBut w w' g none) ∧ (Below w0.heap.size w0 w')) ?_ ?_
        rotate_left
        ·intro hJ0_2_6
         refine join_ (σ := Value × Addr × Nat) 7 #[true, true, true, true, false, true, false, false, false, false, false, true, false] (fun s_ => [(4, s_.1), (6, .int .i64 t316), (3, .pointer (some ⟨s_.2.2, 0, none⟩)), (7, .pointer (some (s_.2.1.add (t316).toNat)))]) (fun s_ w' => (Kd.R (Kd.int .i64) 3 w' w.heap.size (fun _ => True) s_.1 y313) ∧ (∃ c_, (s_.1 : Value) = .slice (some s_.2.1) y313.length c_) ∧ (w'.heap[gb312]? = some (.cells #[.int .i64 0, .string (⟨#[]⟩ : ByteArray)] 42 (0, 0))) ∧ (w'.heap[s_.2.2]? = some (.cells #[.int .i64 0, .string (⟨#[]⟩ : ByteArray)] 42 (0, 0))) ∧ (w.heap.size ≤ s_.2.2) ∧ (w0.heap.size ≤ s_.2.2) ∧ (g ≠ s_.2.2) ∧ (s_.2.2 ≠ g) ∧ (gb312 ≠ s_.2.2) ∧ (s_.2.2 ≠ gb312) ∧ (IsS46 w0 w' g s0_0 t317) ∧ (KeepBut w w' g none) ∧ (Below w0.heap.size w0 w')) ?_ ?_
         rotate_left
         ·intro hJ0_2_11
          refine join_ (σ := Nat) 6 #[false, true, true, false, false, true, true, true, true, false, false, true, false] (fun s_ => [(6, .int .i64 t316), (10, .int .i64 t319), (3, .pointer (some ⟨s_, 0, none⟩)), (11, .int .i64 (wrap64 (Int.tdiv t319 59))), (12, .int .i64 (wrap64 ((wrap64 (Int.tdiv t319 59)) * 5)))]) (fun s_ w' => (w'.heap[gb312]? = some (.cells #[.int .i64 0, .string (⟨#[]⟩ : ByteArray)] 42 (0, 0))) ∧ (w'.heap[s_]? = some (.cells #[.int .i64 0, .string (⟨#[]⟩ : ByteArray)] 42 (0, 0))) ∧ (w.heap.size ≤ s_) ∧ (w0.heap.size ≤ s_) ∧ (g ≠ s_) ∧ (s_ ≠ g) ∧ (gb312 ≠ s_) ∧ (s_ ≠ gb312) ∧ (IsS46 w0 w' g s0_0 t320) ∧ (KeepBut w w' g none) ∧ (Below w0.heap.size w0 w')) ?_ ?_
          rotate_left
          ·intro hJ2_6_11
           refine join_ (σ := Value × Addr) 8 #[true, true, true, true, false, true, false, false, false, false, false, false, false] (fun s_ => [(4, s_.1), (6, .int .i64 t316), (7, .pointer (some (s_.2.add (t316).toNat)))]) (fun s_ w' => (Kd.R (Kd.int .i64) 3 w' w.heap.size (fun _ => True) s_.1 y313) ∧ (∃ c_, (s_.1 : Value) = .slice (some s_.2) y313.length c_) ∧ (w'.heap[gb312]? = some (.cells #[.int .i64 0, .string (⟨#[]⟩ : ByteArray)] 42 (0, 0))) ∧ (IsS46 w0 w' g s0_0 t317) ∧ (KeepBut w w' g none) ∧ (Below w0.heap.size w0 w')) ?_ ?_
           rotate_left
           ·intro hJ0_2
            refine join_ (σ := Value × Addr × Nat) 9 #[true, true, false, false, false, true, false, false, false, false, false, true, false] (fun s_ => [(4, s_.1), (3, .pointer (some ⟨s_.2.2, 0, none⟩))]) (fun s_ w' => (Kd.R (Kd.int .i64) 3 w' w.heap.size (fun _ => True) s_.1 y313) ∧ (∃ c_, (s_.1 : Value) = .slice (some s_.2.1) y313.length c_) ∧ (w'.heap[gb312]? = some (.cells #[.int .i64 0, .string (⟨#[]⟩ : ByteArray)] 42 (0, 0))) ∧ (w'.heap[s_.2.2]? = some (.cells #[.int .i64 0, .string (⟨#[]⟩ : ByteArray)] 42 (0, 0))) ∧ (w.heap.size ≤ s_.2.2) ∧ (w0.heap.size ≤ s_.2.2) ∧ (g ≠ s_.2.2) ∧ (s_.2.2 ≠ g) ∧ (gb312 ≠ s_.2.2) ∧ (s_.2.2 ≠ gb312) ∧ (IsS46 w0 w' g s0_0 s0_1) ∧ (KeepBut w w' g none) ∧ (Below w0.heap.size w0 w')) ?_ ?_
            rotate_left
            ·intro hJ0_11
             refine join_ (σ := Unit) 7 #[false, true, true, false, false, true, true, true, true, false, false, false, false] (fun s_ => [(6, .int .i64 t316), (10, .int .i64 t319), (11, .int .i64 (wrap64 (Int.tdiv t319 59))), (12, .int .i64 (wrap64 ((wrap64 (Int.tdiv t319 59)) * 5)))]) (fun s_ w' => (w'.heap[gb312]? = some (.cells #[.int .i64 0, .string (⟨#[]⟩ : ByteArray)] 42 (0, 0))) ∧ (IsS46 w0 w' g s0_0 t320) ∧ (KeepBut w w' g none) ∧ (Below w0.heap.size w0 w')) ?_ ?_
             rotate_left
             ·intro hJ2_6
              refine join_ (σ := Nat) 9 #[false, true, true, false, false, true, false, false, false, false, false, true, false] (fun s_ => [(6, .int .i64 t316), (3, .pointer (some ⟨s_, 0, none⟩))]) (fun s_ w' => (w'.heap[gb312]? = some (.cells #[.int .i64 0, .string (⟨#[]⟩ : ByteArray)] 42 (0, 0))) ∧ (w'.heap[s_]? = some (.cells #[.int .i64 0, .string (⟨#[]⟩ : ByteArray)] 42 (0, 0))) ∧ (w.heap.size ≤ s_) ∧ (w0.heap.size ≤ s_) ∧ (g ≠ s_) ∧ (s_ ≠ g) ∧ (gb312 ≠ s_) ∧ (s_ ≠ gb312) ∧ (IsS46 w0 w' g s0_0 t317) ∧ (KeepBut w w' g none) ∧ (Below w0.heap.size w0 w')) ?_ ?_
              rotate_left
              ·intro hJ2_11
               refine join_ (σ := Value × Addr) 10 #[true, true, false, false, false, true, false, false, false, false, false, false, false] (fun s_ => [(4, s_.1)]) (fun s_ w' => (Kd.R (Kd.int .i64) 3 w' w.heap.size (fun _ => True) s_.1 y313) ∧ (∃ c_, (s_.1 : Value) = .slice (some s_.2) y313.length c_) ∧ (w'.heap[gb312]? = some (.cells #[.int .i64 0, .string (⟨#[]⟩ : ByteArray)] 42 (0, 0))) ∧ (IsS46 w0 w' g s0_0 s0_1) ∧ (KeepBut w w' g none) ∧ (Below w0.heap.size w0 w')) ?_ ?_
               rotate_left
               ·intro hJ0
                refine join_ (σ := Unit) 10 #[false, true, true, false, false, true, false, false, false, false, false, false, false] (fun s_ => [(6, .int .i64 t316)]) (fun s_ w' => (w'.heap[gb312]? = some (.cells #[.int .i64 0, .string (⟨#[]⟩ : ByteArray)] 42 (0, 0))) ∧ (IsS46 w0 w' g s0_0 t317) ∧ (KeepBut w w' g none) ∧ (Below w0.heap.size w0 w')) ?_ ?_
                rotate_left
                ·intro hJ2
                 refine join_ (σ := Nat) 10 #[false, true, false, false, false, true, false, false, false, false, false, true, false] (fun s_ => [(3, .pointer (some ⟨s_, 0, none⟩))]) (fun s_ w' => (w'.heap[gb312]? = some (.cells #[.int .i64 0, .string (⟨#[]⟩ : ByteArray)] 42 (0, 0))) ∧ (w'.heap[s_]? = some (.cells #[.int .i64 0, .string (⟨#[]⟩ : ByteArray)] 42 (0, 0))) ∧ (w.heap.size ≤ s_) ∧ (w0.heap.size ≤ s_) ∧ (g ≠ s_) ∧ (s_ ≠ g) ∧ (gb312 ≠ s_) ∧ (s_ ≠ gb312) ∧ (IsS46 w0 w' g s0_0 s0_1) ∧ (KeepBut w w' g none) ∧ (Below w0.heap.size w0 w')) ?_ ?_
                 rotate_left
                 ·intro hJ11
                  refine three_ (i := 0) (j := 2) (k := 11) (Ni := some 4) (Nj := some 6) (Nk := some 3) #[true, true, false, false, false, true, false, false, false, false, false, false, false] #[false, true, true, false, false, true, false, false, false, false, false, false, false] #[false, true, false, false, false, true, false, false, false, false, false, true, false] rfl rfl rfl rfl rfl rfl (three_of HT_.out (by kernel_rfl)) (by decide) (by decide) (by decide) (fun K hK => ?_) (fun K hK => ?_) (fun K hK => ?_)
                  ·skip
                   refine Kd.R_lit_step (Kd.int .i64) _ 3 ?hg (N := 4) ?hd (xs := ([0, 0, 0, 1, 1, 2, 3, 4] : List Int)) (inner := [.int .i64 0, .int .i64 0, .int .i64 0, .int .i64 1, .int .i64 1, .int .i64 2, .int .i64 3, .int .i64 4]) (ok := fun _ => True) (okp := fun _ => True) ?hr ?hp (fun _ hk => hk) trivial (Below.refl _ _) (Nat.le_refl _) (by simp) ?_; (case hd => rfl); (case hg => rfl); (case hr => exact Z8); (case hp => exact Z64)
                   intro v314 w9 ho10 hb hg_ hnew_
                   clear hg_ hnew_
                   (first | rw [← Ny313.out] at ho10 | (simp only [Int.reduceToNat] at ho10; rw [← Ny313.out] at ho10))
                   have HO315 := Aside0.mk (Kd.R_lower ho10 (keep_size (w := w) (g := g) (row := none) (Z37 GW312)))
                   replace BK312 := sqT BK312 hb
                   replace HK := Aside0.mk (KeepBut.trans (Z37 GW312) (KeepBut.of_below hb g none) (.inl rfl))
                   replace HB := Aside0.mk (below_step (Z28 HI0 GE312) hb)
                   replace HI0 := Aside0.mk (IsS46.below (Z27 HI0 NB0_312) hb)
                   clear hb ho10
                   obtain ⟨Ao11, co11, eo11⟩ := Kd.R_slice HO315.out
                   subst eo11
                   obtain ⟨ado11, fo11, _⟩ := Kd.at_int (Kd.R_reads' HO315.out).2.2 0 (by decide) (by rw [Ny313.out]; simp)
                   cases fo11
                   refine hK.out _ _ trivial (fun hHeld => ?_)
                   clear hK K
                   refine sqN (some 4) ?_
                   exact norm_ Z65 (hJ0 (.slice (some ado11) y313.length co11, ado11) _ ⟨(sqR HO315), ⟨_, rfl⟩, (sqK BK312), (Z27 HI0 NB0_312), (Z37 GW312), (Z28 HI0 GE312)⟩)
                  ·skip
                   refine goes_ Try.func15 (by kernel_rfl) rfl #[.pointer (some ⟨g, 0, none⟩), .int .i64 8] (by rfl) rfl rfl sqA ?_
                   with_reducible refine (spec_l20Rd_pick.calls k g s0_0 s0_1 8 t316 t317 w0 _ ?side1 ?side2 A2.out).mono ?_
                   (case side1 => exact Z27 HI0 NB0_312)
                   (case side2 => exact Z28 HI0 GE312)
                   rintro e w9 ⟨rfl, hi, hb, hk⟩
                   refine ⟨_, rfl, ?_⟩
                   replace BK312 := Aside0.mk (KeepBut.blk hk (g' := gb312) (o := .cells #[.int .i64 0, .string (⟨#[]⟩ : ByteArray)] 42 (0, 0)) (sqK BK312) NB312_0.out (by simp))
                   replace HK := Aside0.mk (KeepBut.trans (Z37 GW312) hk (.inl rfl))
                   replace HB := Aside0.mk (hb)
                   replace HI0 := Aside0.mk (hi)
                   (try clear hb)
                   (try clear hb2)
                   (try clear hk)
                   (try clear hi)
                   refine hK.out _ _ trivial (fun hHeld => ?_)
                   clear hK K
                   refine sqN (some 6) ?_
                   exact norm_ Z65 (hJ2 () _ ⟨(sqK BK312), (Z27 HI0 NB0_312), (Z37 GW312), (Z28 HI0 GE312)⟩)
                  ·skip
                   refine box_step ?hg (N := 3) ?hd (cs := #[.int .i64 0, .string (⟨#[]⟩ : ByteArray)]) (t := 42) ?hr ?_; (case hd => rfl); (case hg => rfl); (case hr => exact Z8)
                   intro gb321 hg w9 hbox hb
                   replace HB := Aside0.mk (below_step (Z28 HI0 GE312) hb)
                   have BK321 := Aside0.mk (hbox)
                   have GW321 := Aside0.mk ((Z78 GW312 : w.heap.size ≤ gb321))
                   have GE321 := Aside0.mk ((Nat.le_trans HW0.out (Z78 GW312 : w.heap.size ≤ gb321) : w0.heap.size ≤ gb321))
                   replace HK := Aside0.mk (KeepBut.trans (Z37 GW312) (KeepBut.of_below hb g none) (.inl rfl))
                   have NB312_321 := Aside0.mk ((Z41 BK312 : gb312 ≠ gb321))
                   have NB321_312 := Aside0.mk ((Z42 BK312 : gb321 ≠ gb312))
                   replace BK312 := sqT BK312 hb
                   have NB0_321 := Aside0.mk ((Z66 HI0 NB0_312 : g ≠ gb321))
                   have NB321_0 := Aside0.mk ((Z67 HI0 NB0_312 : gb321 ≠ g))
                   replace HI0 := Aside0.mk (IsS46.below (Z27 HI0 NB0_312) hb)
                   clear hb hbox hg
                   refine hK.out _ _ trivial (fun hHeld => ?_)
                   clear hK K
                   refine sqN (some 3) ?_
                   exact norm_ Z65 (hJ11 (gb321) _ ⟨(sqK BK312), (sqK BK321), GW321.out, GE321.out, NB0_321.out, NB321_0.out, NB312_321.out, NB321_312.out, (Z38 HI0 NB0_312 NB0_321), (Z40 GW312 GW321), (Z39 HI0 GE312 GE321)⟩)
                 ·skip
                  rintro gb321 w10 ⟨h0_, h1_, h2_, h3_, h4_, h5_, h6_, h7_, h8_, h9_, h10_⟩
                  have n0_ : Aside0 (w10.heap[gb312]? = some (.cells #[.int .i64 0, .string (⟨#[]⟩ : ByteArray)] 42 (0, 0))) := ⟨h0_⟩
                  have n1_ : Aside0 (w10.heap[gb321]? = some (.cells #[.int .i64 0, .string (⟨#[]⟩ : ByteArray)] 42 (0, 0))) := ⟨h1_⟩
                  have n2_ : Aside0 (w.heap.size ≤ gb321) := ⟨h2_⟩
                  have n3_ : Aside0 (w0.heap.size ≤ gb321) := ⟨h3_⟩
                  have n4_ : Aside0 (g ≠ gb321) := ⟨h4_⟩
                  have n5_ : Aside0 (gb321 ≠ g) := ⟨h5_⟩
                  have n6_ : Aside0 (gb312 ≠ gb321) := ⟨h6_⟩
                  have n7_ : Aside0 (gb321 ≠ gb312) := ⟨h7_⟩
                  have n8_ : Aside0 (IsS46 w0 w10 g s0_0 s0_1) := ⟨h8_⟩
                  have n9_ : Aside0 (KeepBut w w10 g none) := ⟨h9_⟩
                  have n10_ : Aside0 (Below w0.heap.size w0 w10) := ⟨h10_⟩
                  clear BK312
                  clear HI0
                  clear HK
                  clear HB
                  clear h0_ h1_ h2_ h3_ h4_ h5_ h6_ h7_ h8_ h9_ h10_
                  have BK312 := n0_
                  have BK321 := n1_
                  have GW321 := n2_
                  have GE321 := n3_
                  have NB0_321 := n4_
                  have NB321_0 := n5_
                  have NB312_321 := n6_
                  have NB321_312 := n7_
                  have HI0 := n8_
                  have HK := n9_
                  have HB := n10_
                  clear n0_ n1_ n2_ n3_ n4_ n5_ n6_ n7_ n8_ n9_ n10_
                  have hHeld := trivial
                  refine norm_ (a' := ?_) ?_ ?_
                  rotate_left
                  ·simp only [putAll, Act.put, List.setIfInBounds_toArray, List.set_cons_zero, List.set_cons_succ]
                   rfl
                  refine two_ (i := 0) (j := 2) (Ni := some 4) (Nj := some 6) #[true, true, false, false, false, true, false, false, false, false, false, true, false] #[false, true, true, false, false, true, false, false, false, false, false, true, false] rfl rfl rfl rfl (two_of HT_.out (by kernel_rfl)) (by decide) (by decide) (fun K hK => ?_) (fun K hK => ?_)
                  ·skip
                   refine Kd.R_lit_step (Kd.int .i64) _ 3 ?hg (N := 4) ?hd (xs := ([0, 0, 0, 1, 1, 2, 3, 4] : List Int)) (inner := [.int .i64 0, .int .i64 0, .int .i64 0, .int .i64 1, .int .i64 1, .int .i64 2, .int .i64 3, .int .i64 4]) (ok := fun _ => True) (okp := fun _ => True) ?hr ?hp (fun _ hk => hk) trivial (Below.refl _ _) (Nat.le_refl _) (by simp) ?_; (case hd => rfl); (case hg => rfl); (case hr => exact Z8); (case hp => exact Z64)
                   intro v314 w11 ho12 hb hg_ hnew_
                   clear hg_ hnew_
                   (first | rw [← Ny313.out] at ho12 | (simp only [Int.reduceToNat] at ho12; rw [← Ny313.out] at ho12))
                   have HO315 := Aside0.mk (Kd.R_lower ho12 (keep_size (w := w) (g := g) (row := none) (Z40 GW312 GW321)))
                   replace BK312 := sqT BK312 hb
                   replace BK321 := sqT BK321 hb
                   replace HK := Aside0.mk (KeepBut.trans (Z40 GW312 GW321) (KeepBut.of_below hb g none) (.inl rfl))
                   replace HB := Aside0.mk (below_step (Z39 HI0 GE312 GE321) hb)
                   replace HI0 := Aside0.mk (IsS46.below (Z38 HI0 NB0_312 NB0_321) hb)
                   clear hb ho12
                   obtain ⟨Ao13, co13, eo13⟩ := Kd.R_slice HO315.out
                   subst eo13
                   obtain ⟨ado13, fo13, _⟩ := Kd.at_int (Kd.R_reads' HO315.out).2.2 0 (by decide) (by rw [Ny313.out]; simp)
                   cases fo13
                   refine hK.out _ _ trivial (fun hHeld => ?_)
                   clear hK K
                   refine sqN (some 4) ?_
                   exact norm_ Z65 (hJ0_11 (.slice (some ado13) y313.length co13, ado13, gb321) _ ⟨(sqR HO315), ⟨_, rfl⟩, (sqK BK312), (sqK BK321), GW321.out, GE321.out, NB0_321.out, NB321_0.out, NB312_321.out, NB321_312.out, (Z38 HI0 NB0_312 NB0_321), (Z40 GW312 GW321), (Z39 HI0 GE312 GE321)⟩)
                  ·skip
                   refine goes_ Try.func15 (by kernel_rfl) rfl #[.pointer (some ⟨g, 0, none⟩), .int .i64 8] (by rfl) rfl rfl sqA ?_
                   with_reducible refine (spec_l20Rd_pick.calls k g s0_0 s0_1 8 t316 t317 w0 _ ?side1 ?side2 A2.out).mono ?_
                   (case side1 => exact Z38 HI0 NB0_312 NB0_321)
                   (case side2 => exact Z39 HI0 GE312 GE321)
                   rintro e w11 ⟨rfl, hi, hb, hk⟩
                   refine ⟨_, rfl, ?_⟩
                   replace BK312 := Aside0.mk (KeepBut.blk hk (g' := gb312) (o := .cells #[.int .i64 0, .string (⟨#[]⟩ : ByteArray)] 42 (0, 0)) (sqK BK312) NB312_0.out (by simp))
                   replace BK321 := Aside0.mk (KeepBut.blk hk (g' := gb321) (o := .cells #[.int .i64 0, .string (⟨#[]⟩ : ByteArray)] 42 (0, 0)) (sqK BK321) NB321_0.out (by simp))
                   replace HK := Aside0.mk (KeepBut.trans (Z40 GW312 GW321) hk (.inl rfl))
                   replace HB := Aside0.mk (hb)
                   replace HI0 := Aside0.mk (hi)
                   (try clear hb)
                   (try clear hb2)
                   (try clear hk)
                   (try clear hi)
                   refine hK.out _ _ trivial (fun hHeld => ?_)
                   clear hK K
                   refine sqN (some 6) ?_
                   exact norm_ Z65 (hJ2_11 (gb321) _ ⟨(sqK BK312), (sqK BK321), GW321.out, GE321.out, NB0_321.out, NB321_0.out, NB312_321.out, NB321_312.out, (Z38 HI0 NB0_312 NB0_321), (Z40 GW312 GW321), (Z39 HI0 GE312 GE321)⟩)
                ·skip
                 rintro _ w10 ⟨h0_, h1_, h2_, h3_⟩
                 have n0_ : Aside0 (w10.heap[gb312]? = some (.cells #[.int .i64 0, .string (⟨#[]⟩ : ByteArray)] 42 (0, 0))) := ⟨h0_⟩
                 have n1_ : Aside0 (IsS46 w0 w10 g s0_0 t317) := ⟨h1_⟩
                 have n2_ : Aside0 (KeepBut w w10 g none) := ⟨h2_⟩
                 have n3_ : Aside0 (Below w0.heap.size w0 w10) := ⟨h3_⟩
                 clear BK312
                 clear HI0
                 clear HK
                 clear HB
                 clear h0_ h1_ h2_ h3_
                 have BK312 := n0_
                 have HI0 := n1_
                 have HK := n2_
                 have HB := n3_
                 clear n0_ n1_ n2_ n3_
                 have hHeld := trivial
                 refine norm_ (a' := ?_) ?_ ?_
                 rotate_left
                 ·simp only [putAll, Act.put, List.setIfInBounds_toArray, List.set_cons_zero, List.set_cons_succ]
                  rfl
                 refine three_ (i := 0) (j := 6) (k := 11) (Ni := some 4) (Nj := some 10) (Nk := some 3) #[true, true, true, false, false, true, false, false, false, false, false, false, false] #[false, true, true, false, false, true, true, false, false, false, false, false, false] #[false, true, true, false, false, true, false, false, false, false, false, true, false] rfl rfl rfl rfl rfl rfl (three_of HT_.out (by kernel_rfl)) (by decide) (by decide) (by decide) (fun K hK => ?_) (fun K hK => ?_) (fun K hK => ?_)
                 ·skip
                  refine Kd.R_lit_step (Kd.int .i64) _ 3 ?hg (N := 4) ?hd (xs := ([0, 0, 0, 1, 1, 2, 3, 4] : List Int)) (inner := [.int .i64 0, .int .i64 0, .int .i64 0, .int .i64 1, .int .i64 1, .int .i64 2, .int .i64 3, .int .i64 4]) (ok := fun _ => True) (okp := fun _ => True) ?hr ?hp (fun _ hk => hk) trivial (Below.refl _ _) (Nat.le_refl _) (by simp) ?_; (case hd => rfl); (case hg => rfl); (case hr => exact Z8); (case hp => exact Z64)
                  intro v314 w11 ho12 hb hg_ hnew_
                  clear hg_ hnew_
                  (first | rw [← Ny313.out] at ho12 | (simp only [Int.reduceToNat] at ho12; rw [← Ny313.out] at ho12))
                  have HO315 := Aside0.mk (Kd.R_lower ho12 (keep_size (w := w) (g := g) (row := none) (Z37 GW312)))
                  replace BK312 := sqT BK312 hb
                  replace HK := Aside0.mk (KeepBut.trans (Z37 GW312) (KeepBut.of_below hb g none) (.inl rfl))
                  replace HB := Aside0.mk (below_step (Z28 HI0 GE312) hb)
                  replace HI0 := Aside0.mk (IsS46.below (Z27 HI0 NB0_312) hb)
                  clear hb ho12
                  obtain ⟨Ao13, co13, eo13⟩ := Kd.R_slice HO315.out
                  subst eo13
                  obtain ⟨ado13, fo13, _⟩ := Kd.at_int (Kd.R_reads' HO315.out).2.2 0 (by decide) (by rw [Ny313.out]; simp)
                  cases fo13
                  refine hK.out _ _ trivial (fun hHeld => ?_)
                  clear hK K
                  refine sqN (some 4) ?_
                  refine sqP (i := 3) (N := some 7) (h := ?_)
                  exact norm_ Z65 (hJ0_2 (.slice (some ado13) y313.length co13, ado13) _ ⟨(sqR HO315), ⟨_, rfl⟩, (sqK BK312), (Z27 HI0 NB0_312), (Z37 GW312), (Z28 HI0 GE312)⟩)
                 ·skip
                  refine goes_ Try.func15 (by kernel_rfl) rfl #[.pointer (some ⟨g, 0, none⟩), .int .i64 60] (by rfl) rfl rfl sqA ?_
                  with_reducible refine (spec_l20Rd_pick.calls k g s0_0 t317 60 t319 t320 w0 _ ?side1 ?side2 A5.out).mono ?_
                  (case side1 => exact Z27 HI0 NB0_312)
                  (case side2 => exact Z28 HI0 GE312)
                  rintro e w11 ⟨rfl, hi, hb, hk⟩
                  refine ⟨_, rfl, ?_⟩
                  replace BK312 := Aside0.mk (KeepBut.blk hk (g' := gb312) (o := .cells #[.int .i64 0, .string (⟨#[]⟩ : ByteArray)] 42 (0, 0)) (sqK BK312) NB312_0.out (by simp))
                  replace HK := Aside0.mk (KeepBut.trans (Z37 GW312) hk (.inl rfl))
                  replace HB := Aside0.mk (hb)
                  replace HI0 := Aside0.mk (hi)
                  (try clear hb)
                  (try clear hb2)
                  (try clear hk)
                  (try clear hi)
                  refine hK.out _ _ trivial (fun hHeld => ?_)
                  clear hK K
                  refine sqN (some 10) ?_
                  refine sqP (i := 7) (N := some 11) (h := ?_)
                  refine sqP (i := 8) (N := some 12) (h := ?_)
                  exact norm_ Z65 (hJ2_6 () _ ⟨(sqK BK312), (Z27 HI0 NB0_312), (Z37 GW312), (Z28 HI0 GE312)⟩)
                 ·skip
                  refine box_step ?hg (N := 3) ?hd (cs := #[.int .i64 0, .string (⟨#[]⟩ : ByteArray)]) (t := 42) ?hr ?_; (case hd => rfl); (case hg => rfl); (case hr => exact Z8)
                  intro gb321 hg w11 hbox hb
                  replace HB := Aside0.mk (below_step (Z28 HI0 GE312) hb)
                  have BK321 := Aside0.mk (hbox)
                  have GW321 := Aside0.mk ((Z78 GW312 : w.heap.size ≤ gb321))
                  have GE321 := Aside0.mk ((Nat.le_trans HW0.out (Z78 GW312 : w.heap.size ≤ gb321) : w0.heap.size ≤ gb321))
                  replace HK := Aside0.mk (KeepBut.trans (Z37 GW312) (KeepBut.of_below hb g none) (.inl rfl))
                  have NB312_321 := Aside0.mk ((Z41 BK312 : gb312 ≠ gb321))
                  have NB321_312 := Aside0.mk ((Z42 BK312 : gb321 ≠ gb312))
                  replace BK312 := sqT BK312 hb
                  have NB0_321 := Aside0.mk ((Z68 HI0 NB0_312 : g ≠ gb321))
                  have NB321_0 := Aside0.mk ((Z69 HI0 NB0_312 : gb321 ≠ g))
                  replace HI0 := Aside0.mk (IsS46.below (Z27 HI0 NB0_312) hb)
                  clear hb hbox hg
                  refine hK.out _ _ trivial (fun hHeld => ?_)
                  clear hK K
                  refine sqN (some 3) ?_
                  exact norm_ Z65 (hJ2_11 (gb321) _ ⟨(sqK BK312), (sqK BK321), GW321.out, GE321.out, NB0_321.out, NB321_0.out, NB312_321.out, NB321_312.out, (Z38 HI0 NB0_312 NB0_321), (Z40 GW312 GW321), (Z39 HI0 GE312 GE321)⟩)
               ·skip
                rintro ⟨v314, adz_v314⟩ w12 ⟨h0_, h1_, h2_, h3_, h4_, h5_⟩
                have n0_ : Aside0 (Kd.R (Kd.int .i64) 3 w12 w.heap.size (fun _ => True) v314 y313) := ⟨h0_⟩
                have n1_ : Aside0 (∃ c_, (v314 : Value) = .slice (some adz_v314) y313.length c_) := ⟨h1_⟩
                have n2_ : Aside0 (w12.heap[gb312]? = some (.cells #[.int .i64 0, .string (⟨#[]⟩ : ByteArray)] 42 (0, 0))) := ⟨h2_⟩
                have n3_ : Aside0 (IsS46 w0 w12 g s0_0 s0_1) := ⟨h3_⟩
                have n4_ : Aside0 (KeepBut w w12 g none) := ⟨h4_⟩
                have n5_ : Aside0 (Below w0.heap.size w0 w12) := ⟨h5_⟩
                clear BK312
                clear HI0
                clear HK
                clear HB
                clear h0_ h1_ h2_ h3_ h4_ h5_
                have HO315 := n0_
                have HA_HO315 := n1_
                have BK312 := n2_
                have HI0 := n3_
                have HK := n4_
                have HB := n5_
                clear n0_ n1_ n2_ n3_ n4_ n5_
                have hHeld := trivial
                obtain ⟨co13, eo13⟩ := HA_HO315.out
                clear HA_HO315
                subst eo13
                refine norm_ (a' := ?_) ?_ ?_
                rotate_left
                ·simp only [putAll, Act.put, List.setIfInBounds_toArray, List.set_cons_zero, List.set_cons_succ]
                 rfl
                refine two_ (i := 2) (j := 11) (Ni := some 6) (Nj := some 3) #[true, true, true, false, false, true, false, false, false, false, false, false, false] #[true, true, false, false, false, true, false, false, false, false, false, true, false] rfl rfl rfl rfl (two_of HT_.out (by kernel_rfl)) (by decide) (by decide) (fun K hK => ?_) (fun K hK => ?_)
                ·skip
                 refine goes_ Try.func15 (by kernel_rfl) rfl #[.pointer (some ⟨g, 0, none⟩), .int .i64 8] (by rfl) rfl rfl sqA ?_
                 with_reducible refine (spec_l20Rd_pick.calls k g s0_0 s0_1 8 t316 t317 w0 _ ?side1 ?side2 A2.out).mono ?_
                 (case side1 => exact Z27 HI0 NB0_312)
                 (case side2 => exact Z28 HI0 GE312)
                 rintro e w14 ⟨rfl, hi, hb, hk⟩
                 refine ⟨_, rfl, ?_⟩
                 replace BK312 := Aside0.mk (KeepBut.blk hk (g' := gb312) (o := .cells #[.int .i64 0, .string (⟨#[]⟩ : ByteArray)] 42 (0, 0)) (sqK BK312) NB312_0.out (by simp))
                 replace HO315 := Aside0.mk (Kd.R_mono (Kd.R_keep (IsS46.apart (show IsS46 w0 _ g s0_0 s0_1 from by repeat (first | (with_reducible first | exact HI0.out | apply IsS46.alloc | apply IsS46.drewN | apply IsS46.drew | apply IsS46.set_1 | refine IsS46.far ?_ NB0_312.out _) | exact HI0.out)) (sqR HO315) (by decide)) hk (fun _ h => h.2)) (fun _ h => h.1))
                 replace HK := Aside0.mk (KeepBut.trans (Z37 GW312) hk (.inl rfl))
                 replace HB := Aside0.mk (hb)
                 replace HI0 := Aside0.mk (hi)
                 (try clear hb)
                 (try clear hb2)
                 (try clear hk)
                 (try clear hi)
                 refine hK.out _ _ trivial (fun hHeld => ?_)
                 clear hK K
                 refine sqN (some 6) ?_
                 refine sqP (i := 3) (N := some 7) (h := ?_)
                 exact norm_ Z65 (hJ0_2 (.slice (some adz_v314) y313.length co13, adz_v314) _ ⟨(sqR HO315), ⟨_, rfl⟩, (sqK BK312), (Z27 HI0 NB0_312), (Z37 GW312), (Z28 HI0 GE312)⟩)
                ·skip
                 refine box_step ?hg (N := 3) ?hd (cs := #[.int .i64 0, .string (⟨#[]⟩ : ByteArray)]) (t := 42) ?hr ?_; (case hd => rfl); (case hg => rfl); (case hr => exact Z8)
                 intro gb321 hg w14 hbox hb
                 replace HO315 := sqU HO315 hb
                 replace HB := Aside0.mk (below_step (Z28 HI0 GE312) hb)
                 have BK321 := Aside0.mk (hbox)
                 have GW321 := Aside0.mk ((Z78 GW312 : w.heap.size ≤ gb321))
                 have GE321 := Aside0.mk ((Nat.le_trans HW0.out (Z78 GW312 : w.heap.size ≤ gb321) : w0.heap.size ≤ gb321))
                 replace HK := Aside0.mk (KeepBut.trans (Z37 GW312) (KeepBut.of_below hb g none) (.inl rfl))
                 have NB312_321 := Aside0.mk ((Z41 BK312 : gb312 ≠ gb321))
                 have NB321_312 := Aside0.mk ((Z42 BK312 : gb321 ≠ gb312))
                 replace BK312 := sqT BK312 hb
                 have NB0_321 := Aside0.mk ((Z66 HI0 NB0_312 : g ≠ gb321))
                 have NB321_0 := Aside0.mk ((Z67 HI0 NB0_312 : gb321 ≠ g))
                 replace HI0 := Aside0.mk (IsS46.below (Z27 HI0 NB0_312) hb)
                 clear hb hbox hg
                 refine hK.out _ _ trivial (fun hHeld => ?_)
                 clear hK K
                 refine sqN (some 3) ?_
                 exact norm_ Z65 (hJ0_11 (.slice (some adz_v314) y313.length co13, adz_v314, gb321) _ ⟨(sqR HO315), ⟨_, rfl⟩, (sqK BK312), (sqK BK321), GW321.out, GE321.out, NB0_321.out, NB321_0.out, NB312_321.out, NB321_312.out, (Z38 HI0 NB0_312 NB0_321), (Z40 GW312 GW321), (Z39 HI0 GE312 GE321)⟩)
              ·skip
               rintro gb321 w11 ⟨h0_, h1_, h2_, h3_, h4_, h5_, h6_, h7_, h8_, h9_, h10_⟩
               have n0_ : Aside0 (w11.heap[gb312]? = some (.cells #[.int .i64 0, .string (⟨#[]⟩ : ByteArray)] 42 (0, 0))) := ⟨h0_⟩
               have n1_ : Aside0 (w11.heap[gb321]? = some (.cells #[.int .i64 0, .string (⟨#[]⟩ : ByteArray)] 42 (0, 0))) := ⟨h1_⟩
               have n2_ : Aside0 (w.heap.size ≤ gb321) := ⟨h2_⟩
               have n3_ : Aside0 (w0.heap.size ≤ gb321) := ⟨h3_⟩
               have n4_ : Aside0 (g ≠ gb321) := ⟨h4_⟩
               have n5_ : Aside0 (gb321 ≠ g) := ⟨h5_⟩
               have n6_ : Aside0 (gb312 ≠ gb321) := ⟨h6_⟩
               have n7_ : Aside0 (gb321 ≠ gb312) := ⟨h7_⟩
               have n8_ : Aside0 (IsS46 w0 w11 g s0_0 t317) := ⟨h8_⟩
               have n9_ : Aside0 (KeepBut w w11 g none) := ⟨h9_⟩
               have n10_ : Aside0 (Below w0.heap.size w0 w11) := ⟨h10_⟩
               clear BK312
               clear HI0
               clear HK
               clear HB
               clear h0_ h1_ h2_ h3_ h4_ h5_ h6_ h7_ h8_ h9_ h10_
               have BK312 := n0_
               have BK321 := n1_
               have GW321 := n2_
               have GE321 := n3_
               have NB0_321 := n4_
               have NB321_0 := n5_
               have NB312_321 := n6_
               have NB321_312 := n7_
               have HI0 := n8_
               have HK := n9_
               have HB := n10_
               clear n0_ n1_ n2_ n3_ n4_ n5_ n6_ n7_ n8_ n9_ n10_
               have hHeld := trivial
               refine norm_ (a' := ?_) ?_ ?_
               rotate_left
               ·simp only [putAll, Act.put, List.setIfInBounds_toArray, List.set_cons_zero, List.set_cons_succ]
                rfl
               refine two_ (i := 0) (j := 6) (Ni := some 4) (Nj := some 10) #[true, true, true, false, false, true, false, false, false, false, false, true, false] #[false, true, true, false, false, true, true, false, false, false, false, true, false] rfl rfl rfl rfl (two_of HT_.out (by kernel_rfl)) (by decide) (by decide) (fun K hK => ?_) (fun K hK => ?_)
               ·skip
                refine Kd.R_lit_step (Kd.int .i64) _ 3 ?hg (N := 4) ?hd (xs := ([0, 0, 0, 1, 1, 2, 3, 4] : List Int)) (inner := [.int .i64 0, .int .i64 0, .int .i64 0, .int .i64 1, .int .i64 1, .int .i64 2, .int .i64 3, .int .i64 4]) (ok := fun _ => True) (okp := fun _ => True) ?hr ?hp (fun _ hk => hk) trivial (Below.refl _ _) (Nat.le_refl _) (by simp) ?_; (case hd => rfl); (case hg => rfl); (case hr => exact Z8); (case hp => exact Z64)
                intro v314 w12 ho13 hb hg_ hnew_
                clear hg_ hnew_
                (first | rw [← Ny313.out] at ho13 | (simp only [Int.reduceToNat] at ho13; rw [← Ny313.out] at ho13))
                have HO315 := Aside0.mk (Kd.R_lower ho13 (keep_size (w := w) (g := g) (row := none) (Z40 GW312 GW321)))
                replace BK312 := sqT BK312 hb
                replace BK321 := sqT BK321 hb
                replace HK := Aside0.mk (KeepBut.trans (Z40 GW312 GW321) (KeepBut.of_below hb g none) (.inl rfl))
                replace HB := Aside0.mk (below_step (Z39 HI0 GE312 GE321) hb)
                replace HI0 := Aside0.mk (IsS46.below (Z38 HI0 NB0_312 NB0_321) hb)
                clear hb ho13
                obtain ⟨Ao14, co14, eo14⟩ := Kd.R_slice HO315.out
                subst eo14
                obtain ⟨ado14, fo14, _⟩ := Kd.at_int (Kd.R_reads' HO315.out).2.2 0 (by decide) (by rw [Ny313.out]; simp)
                cases fo14
                refine hK.out _ _ trivial (fun hHeld => ?_)
                clear hK K
                refine sqN (some 4) ?_
                refine sqP (i := 3) (N := some 7) (h := ?_)
                exact norm_ Z65 (hJ0_2_11 (.slice (some ado14) y313.length co14, ado14, gb321) _ ⟨(sqR HO315), ⟨_, rfl⟩, (sqK BK312), (sqK BK321), GW321.out, GE321.out, NB0_321.out, NB321_0.out, NB312_321.out, NB321_312.out, (Z38 HI0 NB0_312 NB0_321), (Z40 GW312 GW321), (Z39 HI0 GE312 GE321)⟩)
               ·skip
                refine goes_ Try.func15 (by kernel_rfl) rfl #[.pointer (some ⟨g, 0, none⟩), .int .i64 60] (by rfl) rfl rfl sqA ?_
                with_reducible refine (spec_l20Rd_pick.calls k g s0_0 t317 60 t319 t320 w0 _ ?side1 ?side2 A5.out).mono ?_
                (case side1 => exact Z38 HI0 NB0_312 NB0_321)
                (case side2 => exact Z39 HI0 GE312 GE321)
                rintro e w12 ⟨rfl, hi, hb, hk⟩
                refine ⟨_, rfl, ?_⟩
                replace BK312 := Aside0.mk (KeepBut.blk hk (g' := gb312) (o := .cells #[.int .i64 0, .string (⟨#[]⟩ : ByteArray)] 42 (0, 0)) (sqK BK312) NB312_0.out (by simp))
                replace BK321 := Aside0.mk (KeepBut.blk hk (g' := gb321) (o := .cells #[.int .i64 0, .string (⟨#[]⟩ : ByteArray)] 42 (0, 0)) (sqK BK321) NB321_0.out (by simp))
                replace HK := Aside0.mk (KeepBut.trans (Z40 GW312 GW321) hk (.inl rfl))
                replace HB := Aside0.mk (hb)
                replace HI0 := Aside0.mk (hi)
                (try clear hb)
                (try clear hb2)
                (try clear hk)
                (try clear hi)
                refine hK.out _ _ trivial (fun hHeld => ?_)
                clear hK K
                refine sqN (some 10) ?_
                refine sqP (i := 7) (N := some 11) (h := ?_)
                refine sqP (i := 8) (N := some 12) (h := ?_)
                exact norm_ Z65 (hJ2_6_11 (gb321) _ ⟨(sqK BK312), (sqK BK321), GW321.out, GE321.out, NB0_321.out, NB321_0.out, NB312_321.out, NB321_312.out, (Z38 HI0 NB0_312 NB0_321), (Z40 GW312 GW321), (Z39 HI0 GE312 GE321)⟩)
             ·skip
              rintro _ w11 ⟨h0_, h1_, h2_, h3_⟩
              have n0_ : Aside0 (w11.heap[gb312]? = some (.cells #[.int .i64 0, .string (⟨#[]⟩ : ByteArray)] 42 (0, 0))) := ⟨h0_⟩
              have n1_ : Aside0 (IsS46 w0 w11 g s0_0 t320) := ⟨h1_⟩
              have n2_ : Aside0 (KeepBut w w11 g none) := ⟨h2_⟩
              have n3_ : Aside0 (Below w0.heap.size w0 w11) := ⟨h3_⟩
              clear BK312
              clear HI0
              clear HK
              clear HB
              clear h0_ h1_ h2_ h3_
              have BK312 := n0_
              have HI0 := n1_
              have HK := n2_
              have HB := n3_
              clear n0_ n1_ n2_ n3_
              have hHeld := trivial
              refine norm_ (a' := ?_) ?_ ?_
              rotate_left
              ·simp only [putAll, Act.put, List.setIfInBounds_toArray, List.set_cons_zero, List.set_cons_succ]
               rfl
              refine two_ (i := 0) (j := 11) (Ni := some 4) (Nj := some 3) #[true, true, true, false, false, true, true, true, true, false, false, false, false] #[false, true, true, false, false, true, true, true, true, false, false, true, false] rfl rfl rfl rfl (two_of HT_.out (by kernel_rfl)) (by decide) (by decide) (fun K hK => ?_) (fun K hK => ?_)
              ·skip
               refine Kd.R_lit_step (Kd.int .i64) _ 3 ?hg (N := 4) ?hd (xs := ([0, 0, 0, 1, 1, 2, 3, 4] : List Int)) (inner := [.int .i64 0, .int .i64 0, .int .i64 0, .int .i64 1, .int .i64 1, .int .i64 2, .int .i64 3, .int .i64 4]) (ok := fun _ => True) (okp := fun _ => True) ?hr ?hp (fun _ hk => hk) trivial (Below.refl _ _) (Nat.le_refl _) (by simp) ?_; (case hd => rfl); (case hg => rfl); (case hr => exact Z8); (case hp => exact Z64)
               intro v314 w12 ho13 hb hg_ hnew_
               clear hg_ hnew_
               (first | rw [← Ny313.out] at ho13 | (simp only [Int.reduceToNat] at ho13; rw [← Ny313.out] at ho13))
               have HO315 := Aside0.mk (Kd.R_lower ho13 (keep_size (w := w) (g := g) (row := none) (Z37 GW312)))
               replace BK312 := sqT BK312 hb
               replace HK := Aside0.mk (KeepBut.trans (Z37 GW312) (KeepBut.of_below hb g none) (.inl rfl))
               replace HB := Aside0.mk (below_step (Z28 HI0 GE312) hb)
               replace HI0 := Aside0.mk (IsS46.below (Z27 HI0 NB0_312) hb)
               clear hb ho13
               obtain ⟨Ao14, co14, eo14⟩ := Kd.R_slice HO315.out
               subst eo14
               obtain ⟨ado14, fo14, _⟩ := Kd.at_int (Kd.R_reads' HO315.out).2.2 0 (by decide) (by rw [Ny313.out]; simp)
               cases fo14
               refine hK.out _ _ trivial (fun hHeld => ?_)
               clear hK K
               refine sqN (some 4) ?_
               refine sqP (i := 3) (N := some 7) (h := ?_)
               exact norm_ Z65 (hJ0_2_6 (.slice (some ado14) y313.length co14, ado14) _ ⟨(sqR HO315), ⟨_, rfl⟩, (sqK BK312), (Z27 HI0 NB0_312), (Z37 GW312), (Z28 HI0 GE312)⟩)
              ·skip
               refine box_step ?hg (N := 3) ?hd (cs := #[.int .i64 0, .string (⟨#[]⟩ : ByteArray)]) (t := 42) ?hr ?_; (case hd => rfl); (case hg => rfl); (case hr => exact Z8)
               intro gb321 hg w12 hbox hb
               replace HB := Aside0.mk (below_step (Z28 HI0 GE312) hb)
               have BK321 := Aside0.mk (hbox)
               have GW321 := Aside0.mk ((Z78 GW312 : w.heap.size ≤ gb321))
               have GE321 := Aside0.mk ((Nat.le_trans HW0.out (Z78 GW312 : w.heap.size ≤ gb321) : w0.heap.size ≤ gb321))
               replace HK := Aside0.mk (KeepBut.trans (Z37 GW312) (KeepBut.of_below hb g none) (.inl rfl))
               have NB312_321 := Aside0.mk ((Z41 BK312 : gb312 ≠ gb321))
               have NB321_312 := Aside0.mk ((Z42 BK312 : gb321 ≠ gb312))
               replace BK312 := sqT BK312 hb
               have NB0_321 := Aside0.mk ((Z70 HI0 NB0_312 : g ≠ gb321))
               have NB321_0 := Aside0.mk ((Z71 HI0 NB0_312 : gb321 ≠ g))
               replace HI0 := Aside0.mk (IsS46.below (Z27 HI0 NB0_312) hb)
               clear hb hbox hg
               refine hK.out _ _ trivial (fun hHeld => ?_)
               clear hK K
               refine sqN (some 3) ?_
               exact norm_ Z65 (hJ2_6_11 (gb321) _ ⟨(sqK BK312), (sqK BK321), GW321.out, GE321.out, NB0_321.out, NB321_0.out, NB312_321.out, NB321_312.out, (Z38 HI0 NB0_312 NB0_321), (Z40 GW312 GW321), (Z39 HI0 GE312 GE321)⟩)
            ·skip
             rintro ⟨v314, adz_v314, gb321⟩ w13 ⟨h0_, h1_, h2_, h3_, h4_, h5_, h6_, h7_, h8_, h9_, h10_, h11_, h12_⟩
             have n0_ : Aside0 (Kd.R (Kd.int .i64) 3 w13 w.heap.size (fun _ => True) v314 y313) := ⟨h0_⟩
             have n1_ : Aside0 (∃ c_, (v314 : Value) = .slice (some adz_v314) y313.length c_) := ⟨h1_⟩
             have n2_ : Aside0 (w13.heap[gb312]? = some (.cells #[.int .i64 0, .string (⟨#[]⟩ : ByteArray)] 42 (0, 0))) := ⟨h2_⟩
             have n3_ : Aside0 (w13.heap[gb321]? = some (.cells #[.int .i64 0, .string (⟨#[]⟩ : ByteArray)] 42 (0, 0))) := ⟨h3_⟩
             have n4_ : Aside0 (w.heap.size ≤ gb321) := ⟨h4_⟩
             have n5_ : Aside0 (w0.heap.size ≤ gb321) := ⟨h5_⟩
             have n6_ : Aside0 (g ≠ gb321) := ⟨h6_⟩
             have n7_ : Aside0 (gb321 ≠ g) := ⟨h7_⟩
             have n8_ : Aside0 (gb312 ≠ gb321) := ⟨h8_⟩
             have n9_ : Aside0 (gb321 ≠ gb312) := ⟨h9_⟩
             have n10_ : Aside0 (IsS46 w0 w13 g s0_0 s0_1) := ⟨h10_⟩
             have n11_ : Aside0 (KeepBut w w13 g none) := ⟨h11_⟩
             have n12_ : Aside0 (Below w0.heap.size w0 w13) := ⟨h12_⟩
             clear BK312
             clear HI0
             clear HK
             clear HB
             clear h0_ h1_ h2_ h3_ h4_ h5_ h6_ h7_ h8_ h9_ h10_ h11_ h12_
             have HO315 := n0_
             have HA_HO315 := n1_
             have BK312 := n2_
             have BK321 := n3_
             have GW321 := n4_
             have GE321 := n5_
             have NB0_321 := n6_
             have NB321_0 := n7_
             have NB312_321 := n8_
             have NB321_312 := n9_
             have HI0 := n10_
             have HK := n11_
             have HB := n12_
             clear n0_ n1_ n2_ n3_ n4_ n5_ n6_ n7_ n8_ n9_ n10_ n11_ n12_
             have hHeld := trivial
             obtain ⟨co14, eo14⟩ := HA_HO315.out
             clear HA_HO315
             subst eo14
             refine norm_ (a' := ?_) ?_ ?_
             rotate_left
             ·simp only [putAll, Act.put, List.setIfInBounds_toArray, List.set_cons_zero, List.set_cons_succ]
              rfl
             refine one_ (i := 2) (N := some 6) #[true, true, true, false, false, true, false, false, false, false, false, true, false] rfl rfl (one_of HT_.out (by kernel_rfl)) (by decide) (fun K hK => ?_)
             refine goes_ Try.func15 (by kernel_rfl) rfl #[.pointer (some ⟨g, 0, none⟩), .int .i64 8] (by rfl) rfl rfl sqA ?_
             with_reducible refine (spec_l20Rd_pick.calls k g s0_0 s0_1 8 t316 t317 w0 _ ?side1 ?side2 A2.out).mono ?_
             (case side1 => exact Z38 HI0 NB0_312 NB0_321)
             (case side2 => exact Z39 HI0 GE312 GE321)
             rintro e w15 ⟨rfl, hi, hb, hk⟩
             refine ⟨_, rfl, ?_⟩
             replace BK312 := Aside0.mk (KeepBut.blk hk (g' := gb312) (o := .cells #[.int .i64 0, .string (⟨#[]⟩ : ByteArray)] 42 (0, 0)) (sqK BK312) NB312_0.out (by simp))
             replace HO315 := Aside0.mk (Kd.R_mono (Kd.R_keep (IsS46.apart (show IsS46 w0 _ g s0_0 s0_1 from by repeat (first | (with_reducible first | exact HI0.out | apply IsS46.alloc | apply IsS46.drewN | apply IsS46.drew | apply IsS46.set_1 | refine IsS46.far ?_ NB0_312.out _ | refine IsS46.far ?_ NB0_321.out _) | exact HI0.out)) (sqR HO315) (by decide)) hk (fun _ h => h.2)) (fun _ h => h.1))
             replace BK321 := Aside0.mk (KeepBut.blk hk (g' := gb321) (o := .cells #[.int .i64 0, .string (⟨#[]⟩ : ByteArray)] 42 (0, 0)) (sqK BK321) NB321_0.out (by simp))
             replace HK := Aside0.mk (KeepBut.trans (Z40 GW312 GW321) hk (.inl rfl))
             replace HB := Aside0.mk (hb)
             replace HI0 := Aside0.mk (hi)
             (try clear hb)
             (try clear hb2)
             (try clear hk)
             (try clear hi)
             refine hK.out _ _ trivial (fun hHeld => ?_)
             clear hK K
             refine sqN (some 6) ?_
             refine sqP (i := 3) (N := some 7) (h := ?_)
             exact norm_ Z65 (hJ0_2_11 (.slice (some adz_v314) y313.length co14, adz_v314, gb321) _ ⟨(sqR HO315), ⟨_, rfl⟩, (sqK BK312), (sqK BK321), GW321.out, GE321.out, NB0_321.out, NB321_0.out, NB312_321.out, NB321_312.out, (Z38 HI0 NB0_312 NB0_321), (Z40 GW312 GW321), (Z39 HI0 GE312 GE321)⟩)
           ·skip
            rintro ⟨v314, adz_v314⟩ w13 ⟨h0_, h1_, h2_, h3_, h4_, h5_⟩
            have n0_ : Aside0 (Kd.R (Kd.int .i64) 3 w13 w.heap.size (fun _ => True) v314 y313) := ⟨h0_⟩
            have n1_ : Aside0 (∃ c_, (v314 : Value) = .slice (some adz_v314) y313.length c_) := ⟨h1_⟩
            have n2_ : Aside0 (w13.heap[gb312]? = some (.cells #[.int .i64 0, .string (⟨#[]⟩ : ByteArray)] 42 (0, 0))) := ⟨h2_⟩
            have n3_ : Aside0 (IsS46 w0 w13 g s0_0 t317) := ⟨h3_⟩
            have n4_ : Aside0 (KeepBut w w13 g none) := ⟨h4_⟩
            have n5_ : Aside0 (Below w0.heap.size w0 w13) := ⟨h5_⟩
            clear BK312
            clear HI0
            clear HK
            clear HB
            clear h0_ h1_ h2_ h3_ h4_ h5_
            have HO315 := n0_
            have HA_HO315 := n1_
            have BK312 := n2_
            have HI0 := n3_
            have HK := n4_
            have HB := n5_
            clear n0_ n1_ n2_ n3_ n4_ n5_
            have hHeld := trivial
            obtain ⟨co14, eo14⟩ := HA_HO315.out
            clear HA_HO315
            subst eo14
            refine norm_ (a' := ?_) ?_ ?_
            rotate_left
            ·simp only [putAll, Act.put, List.setIfInBounds_toArray, List.set_cons_zero, List.set_cons_succ]
             rfl
            refine three_ (i := 4) (j := 6) (k := 11) (Ni := some 8) (Nj := some 10) (Nk := some 3) #[true, true, true, true, true, true, false, false, false, false, false, false, false] #[true, true, true, true, false, true, true, false, false, false, false, false, false] #[true, true, true, true, false, true, false, false, false, false, false, true, false] rfl rfl rfl rfl rfl rfl (three_of HT_.out (by kernel_rfl)) (by decide) (by decide) (by decide) (fun K hK => ?_) (fun K hK => ?_) (fun K hK => ?_)
            ·skip
             (have p318 : 0 ≤ (t316 : Int) := of_decide_eq_true Z7; have q318 : t316 < (y313.length : Int) := of_decide_eq_true Z7; obtain ⟨ad318, e318, hx318_0⟩ := Kd.at_int (Kd.R_reads' HO315.out).2.2 t316 p318 q318; obtain rfl : adz_v314 = ad318 := (by injection e318))
             refine value_ (w1 := ?_) (v := ?_) (by rfl) rfl ?_ ?_
             rotate_left 2
             ·go_simp
              constructor
              ·rfl
              ·rfl
             clear hx318_0
             refine hK.out _ _ trivial (fun hHeld => ?_)
             clear hK K
             refine sqN (some 8) ?_
             exact norm_ Z65 (hJ0_2_4 (.slice (some adz_v314) y313.length co14, adz_v314) _ ⟨(sqR HO315), ⟨_, rfl⟩, (sqK BK312), (Z27 HI0 NB0_312), (Z37 GW312), (Z28 HI0 GE312)⟩)
            ·skip
             refine goes_ Try.func15 (by kernel_rfl) rfl #[.pointer (some ⟨g, 0, none⟩), .int .i64 60] (by rfl) rfl rfl sqA ?_
             with_reducible refine (spec_l20Rd_pick.calls k g s0_0 t317 60 t319 t320 w0 _ ?side1 ?side2 A5.out).mono ?_
             (case side1 => exact Z27 HI0 NB0_312)
             (case side2 => exact Z28 HI0 GE312)
             rintro e w15 ⟨rfl, hi, hb, hk⟩
             refine ⟨_, rfl, ?_⟩
             replace BK312 := Aside0.mk (KeepBut.blk hk (g' := gb312) (o := .cells #[.int .i64 0, .string (⟨#[]⟩ : ByteArray)] 42 (0, 0)) (sqK BK312) NB312_0.out (by simp))
             replace HO315 := Aside0.mk (Kd.R_mono (Kd.R_keep (IsS46.apart (show IsS46 w0 _ g s0_0 t317 from by repeat (first | (with_reducible first | exact HI0.out | apply IsS46.alloc | apply IsS46.drewN | apply IsS46.drew | apply IsS46.set_1 | refine IsS46.far ?_ NB0_312.out _) | exact HI0.out)) (sqR HO315) (by decide)) hk (fun _ h => h.2)) (fun _ h => h.1))
             replace HK := Aside0.mk (KeepBut.trans (Z37 GW312) hk (.inl rfl))
             replace HB := Aside0.mk (hb)
             replace HI0 := Aside0.mk (hi)
             (try clear hb)
             (try clear hb2)
             (try clear hk)
             (try clear hi)
             refine hK.out _ _ trivial (fun hHeld => ?_)
             clear hK K
             refine sqN (some 10) ?_
             refine sqP (i := 7) (N := some 11) (h := ?_)
             refine sqP (i := 8) (N := some 12) (h := ?_)
             exact norm_ Z65 (hJ0_2_6 (.slice (some adz_v314) y313.length co14, adz_v314) _ ⟨(sqR HO315), ⟨_, rfl⟩, (sqK BK312), (Z27 HI0 NB0_312), (Z37 GW312), (Z28 HI0 GE312)⟩)
            ·skip
             refine box_step ?hg (N := 3) ?hd (cs := #[.int .i64 0, .string (⟨#[]⟩ : ByteArray)]) (t := 42) ?hr ?_; (case hd => rfl); (case hg => rfl); (case hr => exact Z8)
             intro gb321 hg w15 hbox hb
             replace HO315 := sqU HO315 hb
             replace HB := Aside0.mk (below_step (Z28 HI0 GE312) hb)
             have BK321 := Aside0.mk (hbox)
             have GW321 := Aside0.mk ((Z78 GW312 : w.heap.size ≤ gb321))
             have GE321 := Aside0.mk ((Nat.le_trans HW0.out (Z78 GW312 : w.heap.size ≤ gb321) : w0.heap.size ≤ gb321))
             replace HK := Aside0.mk (KeepBut.trans (Z37 GW312) (KeepBut.of_below hb g none) (.inl rfl))
             have NB312_321 := Aside0.mk ((Z41 BK312 : gb312 ≠ gb321))
             have NB321_312 := Aside0.mk ((Z42 BK312 : gb321 ≠ gb312))
             replace BK312 := sqT BK312 hb
             have NB0_321 := Aside0.mk ((Z68 HI0 NB0_312 : g ≠ gb321))
             have NB321_0 := Aside0.mk ((Z69 HI0 NB0_312 : gb321 ≠ g))
             replace HI0 := Aside0.mk (IsS46.below (Z27 HI0 NB0_312) hb)
             clear hb hbox hg
             refine hK.out _ _ trivial (fun hHeld => ?_)
             clear hK K
             refine sqN (some 3) ?_
             exact norm_ Z65 (hJ0_2_11 (.slice (some adz_v314) y313.length co14, adz_v314, gb321) _ ⟨(sqR HO315), ⟨_, rfl⟩, (sqK BK312), (sqK BK321), GW321.out, GE321.out, NB0_321.out, NB321_0.out, NB312_321.out, NB321_312.out, (Z38 HI0 NB0_312 NB0_321), (Z40 GW312 GW321), (Z39 HI0 GE312 GE321)⟩)
          ·skip
           rintro gb321 w12 ⟨h0_, h1_, h2_, h3_, h4_, h5_, h6_, h7_, h8_, h9_, h10_⟩
           have n0_ : Aside0 (w12.heap[gb312]? = some (.cells #[.int .i64 0, .string (⟨#[]⟩ : ByteArray)] 42 (0, 0))) := ⟨h0_⟩
           have n1_ : Aside0 (w12.heap[gb321]? = some (.cells #[.int .i64 0, .string (⟨#[]⟩ : ByteArray)] 42 (0, 0))) := ⟨h1_⟩
           have n2_ : Aside0 (w.heap.size ≤ gb321) := ⟨h2_⟩
           have n3_ : Aside0 (w0.heap.size ≤ gb321) := ⟨h3_⟩
           have n4_ : Aside0 (g ≠ gb321) := ⟨h4_⟩
           have n5_ : Aside0 (gb321 ≠ g) := ⟨h5_⟩
           have n6_ : Aside0 (gb312 ≠ gb321) := ⟨h6_⟩
           have n7_ : Aside0 (gb321 ≠ gb312) := ⟨h7_⟩
           have n8_ : Aside0 (IsS46 w0 w12 g s0_0 t320) := ⟨h8_⟩
           have n9_ : Aside0 (KeepBut w w12 g none) := ⟨h9_⟩
           have n10_ : Aside0 (Below w0.heap.size w0 w12) := ⟨h10_⟩
           clear BK312
           clear HI0
           clear HK
           clear HB
           clear h0_ h1_ h2_ h3_ h4_ h5_ h6_ h7_ h8_ h9_ h10_
           have BK312 := n0_
           have BK321 := n1_
           have GW321 := n2_
           have GE321 := n3_
           have NB0_321 := n4_
           have NB321_0 := n5_
           have NB312_321 := n6_
           have NB321_312 := n7_
           have HI0 := n8_
           have HK := n9_
           have HB := n10_
           clear n0_ n1_ n2_ n3_ n4_ n5_ n6_ n7_ n8_ n9_ n10_
           have hHeld := trivial
           refine norm_ (a' := ?_) ?_ ?_
           rotate_left
           ·simp only [putAll, Act.put, List.setIfInBounds_toArray, List.set_cons_zero, List.set_cons_succ]
            rfl
           refine one_ (i := 0) (N := some 4) #[true, true, true, false, false, true, true, true, true, false, false, true, false] rfl rfl (one_of HT_.out (by kernel_rfl)) (by decide) (fun K hK => ?_)
           refine Kd.R_lit_step (Kd.int .i64) _ 3 ?hg (N := 4) ?hd (xs := ([0, 0, 0, 1, 1, 2, 3, 4] : List Int)) (inner := [.int .i64 0, .int .i64 0, .int .i64 0, .int .i64 1, .int .i64 1, .int .i64 2, .int .i64 3, .int .i64 4]) (ok := fun _ => True) (okp := fun _ => True) ?hr ?hp (fun _ hk => hk) trivial (Below.refl _ _) (Nat.le_refl _) (by simp) ?_; (case hd => rfl); (case hg => rfl); (case hr => exact Z8); (case hp => exact Z64)
           intro v314 w13 ho14 hb hg_ hnew_
           clear hg_ hnew_
           (first | rw [← Ny313.out] at ho14 | (simp only [Int.reduceToNat] at ho14; rw [← Ny313.out] at ho14))
           have HO315 := Aside0.mk (Kd.R_lower ho14 (keep_size (w := w) (g := g) (row := none) (Z40 GW312 GW321)))
           replace BK312 := sqT BK312 hb
           replace BK321 := sqT BK321 hb
           replace HK := Aside0.mk (KeepBut.trans (Z40 GW312 GW321) (KeepBut.of_below hb g none) (.inl rfl))
           replace HB := Aside0.mk (below_step (Z39 HI0 GE312 GE321) hb)
           replace HI0 := Aside0.mk (IsS46.below (Z38 HI0 NB0_312 NB0_321) hb)
           clear hb ho14
           obtain ⟨Ao15, co15, eo15⟩ := Kd.R_slice HO315.out
           subst eo15
           obtain ⟨ado15, fo15, _⟩ := Kd.at_int (Kd.R_reads' HO315.out).2.2 0 (by decide) (by rw [Ny313.out]; simp)
           cases fo15
           refine hK.out _ _ trivial (fun hHeld => ?_)
           clear hK K
           refine sqN (some 4) ?_
           refine sqP (i := 3) (N := some 7) (h := ?_)
           exact norm_ Z65 (hJ0_2_6_11 (.slice (some ado15) y313.length co15, ado15, gb321) _ ⟨(sqR HO315), ⟨_, rfl⟩, (sqK BK312), (sqK BK321), GW321.out, GE321.out, NB0_321.out, NB321_0.out, NB312_321.out, NB321_312.out, (Z38 HI0 NB0_312 NB0_321), (Z40 GW312 GW321), (Z39 HI0 GE312 GE321)⟩)
         ·skip
          rintro ⟨v314, adz_v314, gb321⟩ w14 ⟨h0_, h1_, h2_, h3_, h4_, h5_, h6_, h7_, h8_, h9_, h10_, h11_, h12_⟩
          have n0_ : Aside0 (Kd.R (Kd.int .i64) 3 w14 w.heap.size (fun _ => True) v314 y313) := ⟨h0_⟩
          have n1_ : Aside0 (∃ c_, (v314 : Value) = .slice (some adz_v314) y313.length c_) := ⟨h1_⟩
          have n2_ : Aside0 (w14.heap[gb312]? = some (.cells #[.int .i64 0, .string (⟨#[]⟩ : ByteArray)] 42 (0, 0))) := ⟨h2_⟩
          have n3_ : Aside0 (w14.heap[gb321]? = some (.cells #[.int .i64 0, .string (⟨#[]⟩ : ByteArray)] 42 (0, 0))) := ⟨h3_⟩
          have n4_ : Aside0 (w.heap.size ≤ gb321) := ⟨h4_⟩
          have n5_ : Aside0 (w0.heap.size ≤ gb321) := ⟨h5_⟩
          have n6_ : Aside0 (g ≠ gb321) := ⟨h6_⟩
          have n7_ : Aside0 (gb321 ≠ g) := ⟨h7_⟩
          have n8_ : Aside0 (gb312 ≠ gb321) := ⟨h8_⟩
          have n9_ : Aside0 (gb321 ≠ gb312) := ⟨h9_⟩
          have n10_ : Aside0 (IsS46 w0 w14 g s0_0 t317) := ⟨h10_⟩
          have n11_ : Aside0 (KeepBut w w14 g none) := ⟨h11_⟩
          have n12_ : Aside0 (Below w0.heap.size w0 w14) := ⟨h12_⟩
          clear BK312
          clear HI0
          clear HK
          clear HB
          clear h0_ h1_ h2_ h3_ h4_ h5_ h6_ h7_ h8_ h9_ h10_ h11_ h12_
          have HO315 := n0_
          have HA_HO315 := n1_
          have BK312 := n2_
          have BK321 := n3_
          have GW321 := n4_
          have GE321 := n5_
          have NB0_321 := n6_
          have NB321_0 := n7_
          have NB312_321 := n8_
          have NB321_312 := n9_
          have HI0 := n10_
          have HK := n11_
          have HB := n12_
          clear n0_ n1_ n2_ n3_ n4_ n5_ n6_ n7_ n8_ n9_ n10_ n11_ n12_
          have hHeld := trivial
          obtain ⟨co15, eo15⟩ := HA_HO315.out
          clear HA_HO315
          subst eo15
          refine norm_ (a' := ?_) ?_ ?_
          rotate_left
          ·simp only [putAll, Act.put, List.setIfInBounds_toArray, List.set_cons_zero, List.set_cons_succ]
           rfl
          refine two_ (i := 4) (j := 6) (Ni := some 8) (Nj := some 10) #[true, true, true, true, true, true, false, false, false, false, false, true, false] #[true, true, true, true, false, true, true, false, false, false, false, true, false] rfl rfl rfl rfl (two_of HT_.out (by kernel_rfl)) (by decide) (by decide) (fun K hK => ?_) (fun K hK => ?_)
          ·skip
           (have p318 : 0 ≤ (t316 : Int) := of_decide_eq_true Z7; have q318 : t316 < (y313.length : Int) := of_decide_eq_true Z7; obtain ⟨ad318, e318, hx318_0⟩ := Kd.at_int (Kd.R_reads' HO315.out).2.2 t316 p318 q318; obtain rfl : adz_v314 = ad318 := (by injection e318))
           refine value_ (w1 := ?_) (v := ?_) (by rfl) rfl ?_ ?_
           rotate_left 2
           ·go_simp
            constructor
            ·rfl
            ·rfl
           clear hx318_0
           refine hK.out _ _ trivial (fun hHeld => ?_)
           clear hK K
           refine sqN (some 8) ?_
           exact norm_ Z65 (hJ0_2_4_11 (.slice (some adz_v314) y313.length co15, adz_v314, gb321) _ ⟨(sqR HO315), ⟨_, rfl⟩, (sqK BK312), (sqK BK321), GW321.out, GE321.out, NB0_321.out, NB321_0.out, NB312_321.out, NB321_312.out, (Z38 HI0 NB0_312 NB0_321), (Z40 GW312 GW321), (Z39 HI0 GE312 GE321)⟩)
          ·skip
           refine goes_ Try.func15 (by kernel_rfl) rfl #[.pointer (some ⟨g, 0, none⟩), .int .i64 60] (by rfl) rfl rfl sqA ?_
           with_reducible refine (spec_l20Rd_pick.calls k g s0_0 t317 60 t319 t320 w0 _ ?side1 ?side2 A5.out).mono ?_
           (case side1 => exact Z38 HI0 NB0_312 NB0_321)
           (case side2 => exact Z39 HI0 GE312 GE321)
           rintro e w16 ⟨rfl, hi, hb, hk⟩
           refine ⟨_, rfl, ?_⟩
           replace BK312 := Aside0.mk (KeepBut.blk hk (g' := gb312) (o := .cells #[.int .i64 0, .string (⟨#[]⟩ : ByteArray)] 42 (0, 0)) (sqK BK312) NB312_0.out (by simp))
           replace HO315 := Aside0.mk (Kd.R_mono (Kd.R_keep (IsS46.apart (show IsS46 w0 _ g s0_0 t317 from by repeat (first | (with_reducible first | exact HI0.out | apply IsS46.alloc | apply IsS46.drewN | apply IsS46.drew | apply IsS46.set_1 | refine IsS46.far ?_ NB0_312.out _ | refine IsS46.far ?_ NB0_321.out _) | exact HI0.out)) (sqR HO315) (by decide)) hk (fun _ h => h.2)) (fun _ h => h.1))
           replace BK321 := Aside0.mk (KeepBut.blk hk (g' := gb321) (o := .cells #[.int .i64 0, .string (⟨#[]⟩ : ByteArray)] 42 (0, 0)) (sqK BK321) NB321_0.out (by simp))
           replace HK := Aside0.mk (KeepBut.trans (Z40 GW312 GW321) hk (.inl rfl))
           replace HB := Aside0.mk (hb)
           replace HI0 := Aside0.mk (hi)
           (try clear hb)
           (try clear hb2)
           (try clear hk)
           (try clear hi)
           refine hK.out _ _ trivial (fun hHeld => ?_)
           clear hK K
           refine sqN (some 10) ?_
           refine sqP (i := 7) (N := some 11) (h := ?_)
           refine sqP (i := 8) (N := some 12) (h := ?_)
           exact norm_ Z65 (hJ0_2_6_11 (.slice (some adz_v314) y313.length co15, adz_v314, gb321) _ ⟨(sqR HO315), ⟨_, rfl⟩, (sqK BK312), (sqK BK321), GW321.out, GE321.out, NB0_321.out, NB321_0.out, NB312_321.out, NB321_312.out, (Z38 HI0 NB0_312 NB0_321), (Z40 GW312 GW321), (Z39 HI0 GE312 GE321)⟩)
        ·skip
         rintro ⟨v314, adz_v314⟩ w14 ⟨h0_, h1_, h2_, h3_, h4_, h5_⟩
         have n0_ : Aside0 (Kd.R (Kd.int .i64) 3 w14 w.heap.size (fun _ => True) v314 y313) := ⟨h0_⟩
         have n1_ : Aside0 (∃ c_, (v314 : Value) = .slice (some adz_v314) y313.length c_) := ⟨h1_⟩
         have n2_ : Aside0 (w14.heap[gb312]? = some (.cells #[.int .i64 0, .string (⟨#[]⟩ : ByteArray)] 42 (0, 0))) := ⟨h2_⟩
         have n3_ : Aside0 (IsS46 w0 w14 g s0_0 t320) := ⟨h3_⟩
         have n4_ : Aside0 (KeepBut w w14 g none) := ⟨h4_⟩
         have n5_ : Aside0 (Below w0.heap.size w0 w14) := ⟨h5_⟩
         clear BK312
         clear HI0
         clear HK
         clear HB
         clear h0_ h1_ h2_ h3_ h4_ h5_
         have HO315 := n0_
         have HA_HO315 := n1_
         have BK312 := n2_
         have HI0 := n3_
         have HK := n4_
         have HB := n5_
         clear n0_ n1_ n2_ n3_ n4_ n5_
         have hHeld := trivial
         obtain ⟨co15, eo15⟩ := HA_HO315.out
         clear HA_HO315
         subst eo15
         refine norm_ (a' := ?_) ?_ ?_
         rotate_left
         ·simp only [putAll, Act.put, List.setIfInBounds_toArray, List.set_cons_zero, List.set_cons_succ]
          rfl
         refine two_ (i := 4) (j := 11) (Ni := some 8) (Nj := some 3) #[true, true, true, true, true, true, true, true, true, false, false, false, false] #[true, true, true, true, false, true, true, true, true, false, false, true, false] rfl rfl rfl rfl (two_of HT_.out (by kernel_rfl)) (by decide) (by decide) (fun K hK => ?_) (fun K hK => ?_)
         ·skip
          (have p318 : 0 ≤ (t316 : Int) := of_decide_eq_true Z7; have q318 : t316 < (y313.length : Int) := of_decide_eq_true Z7; obtain ⟨ad318, e318, hx318_0⟩ := Kd.at_int (Kd.R_reads' HO315.out).2.2 t316 p318 q318; obtain rfl : adz_v314 = ad318 := (by injection e318))
          refine value_ (w1 := ?_) (v := ?_) (by rfl) rfl ?_ ?_
          rotate_left 2
          ·go_simp
           constructor
           ·rfl
           ·rfl
          clear hx318_0
          refine hK.out _ _ trivial (fun hHeld => ?_)
          clear hK K
          refine sqN (some 8) ?_
          refine sqP (i := 9) (N := some 13) (h := ?_)
          refine sqP (i := 10) (N := some 14) (h := ?_)
          exact norm_ Z65 (hJ0_2_4_6 (.slice (some adz_v314) y313.length co15, adz_v314) _ ⟨(sqR HO315), ⟨_, rfl⟩, (sqK BK312), (Z27 HI0 NB0_312), (Z37 GW312), (Z28 HI0 GE312)⟩)
         ·skip
          refine box_step ?hg (N := 3) ?hd (cs := #[.int .i64 0, .string (⟨#[]⟩ : ByteArray)]) (t := 42) ?hr ?_; (case hd => rfl); (case hg => rfl); (case hr => exact Z8)
          intro gb321 hg w16 hbox hb
          replace HO315 := sqU HO315 hb
          replace HB := Aside0.mk (below_step (Z28 HI0 GE312) hb)
          have BK321 := Aside0.mk (hbox)
          have GW321 := Aside0.mk ((Z78 GW312 : w.heap.size ≤ gb321))
          have GE321 := Aside0.mk ((Nat.le_trans HW0.out (Z78 GW312 : w.heap.size ≤ gb321) : w0.heap.size ≤ gb321))
          replace HK := Aside0.mk (KeepBut.trans (Z37 GW312) (KeepBut.of_below hb g none) (.inl rfl))
          have NB312_321 := Aside0.mk ((Z41 BK312 : gb312 ≠ gb321))
          have NB321_312 := Aside0.mk ((Z42 BK312 : gb321 ≠ gb312))
          replace BK312 := sqT BK312 hb
          have NB0_321 := Aside0.mk ((Z70 HI0 NB0_312 : g ≠ gb321))
          have NB321_0 := Aside0.mk ((Z71 HI0 NB0_312 : gb321 ≠ g))
          replace HI0 := Aside0.mk (IsS46.below (Z27 HI0 NB0_312) hb)
          clear hb hbox hg
          refine hK.out _ _ trivial (fun hHeld => ?_)
          clear hK K
          refine sqN (some 3) ?_
          exact norm_ Z65 (hJ0_2_6_11 (.slice (some adz_v314) y313.length co15, adz_v314, gb321) _ ⟨(sqR HO315), ⟨_, rfl⟩, (sqK BK312), (sqK BK321), GW321.out, GE321.out, NB0_321.out, NB321_0.out, NB312_321.out, NB321_312.out, (Z38 HI0 NB0_312 NB0_321), (Z40 GW312 GW321), (Z39 HI0 GE312 GE321)⟩)
       ·skip
        rintro ⟨v314, adz_v314⟩ w13 ⟨h0_, h1_, h2_, h3_, h4_, h5_⟩
        have n0_ : Aside0 (Kd.R (Kd.int .i64) 3 w13 w.heap.size (fun _ => True) v314 y313) := ⟨h0_⟩
        have n1_ : Aside0 (∃ c_, (v314 : Value) = .slice (some adz_v314) y313.length c_) := ⟨h1_⟩
        have n2_ : Aside0 (w13.heap[gb312]? = some (.cells #[.int .i64 0, .string (⟨#[]⟩ : ByteArray)] 42 (0, 0))) := ⟨h2_⟩
        have n3_ : Aside0 (IsS46 w0 w13 g s0_0 t317) := ⟨h3_⟩
        have n4_ : Aside0 (KeepBut w w13 g none) := ⟨h4_⟩
        have n5_ : Aside0 (Below w0.heap.size w0 w13) := ⟨h5_⟩
        clear BK312
        clear HI0
        clear HK
        clear HB
        clear h0_ h1_ h2_ h3_ h4_ h5_
        have HO315 := n0_
        have HA_HO315 := n1_
        have BK312 := n2_
        have HI0 := n3_
        have HK := n4_
        have HB := n5_
        clear n0_ n1_ n2_ n3_ n4_ n5_
        have hHeld := trivial
        obtain ⟨co14, eo14⟩ := HA_HO315.out
        clear HA_HO315
        subst eo14
        refine norm_ (a' := ?_) ?_ ?_
        rotate_left
        ·simp only [putAll, Act.put, List.setIfInBounds_toArray, List.set_cons_zero, List.set_cons_succ]
         rfl
        refine two_ (i := 6) (j := 11) (Ni := some 10) (Nj := some 3) #[true, true, true, true, true, true, true, false, false, false, false, false, false] #[true, true, true, true, true, true, false, false, false, false, false, true, false] rfl rfl rfl rfl (two_of HT_.out (by kernel_rfl)) (by decide) (by decide) (fun K hK => ?_) (fun K hK => ?_)
        ·skip
         refine goes_ Try.func15 (by kernel_rfl) rfl #[.pointer (some ⟨g, 0, none⟩), .int .i64 60] (by rfl) rfl rfl sqA ?_
         with_reducible refine (spec_l20Rd_pick.calls k g s0_0 t317 60 t319 t320 w0 _ ?side1 ?side2 A5.out).mono ?_
         (case side1 => exact Z27 HI0 NB0_312)
         (case side2 => exact Z28 HI0 GE312)
         rintro e w15 ⟨rfl, hi, hb, hk⟩
         refine ⟨_, rfl, ?_⟩
         replace BK312 := Aside0.mk (KeepBut.blk hk (g' := gb312) (o := .cells #[.int .i64 0, .string (⟨#[]⟩ : ByteArray)] 42 (0, 0)) (sqK BK312) NB312_0.out (by simp))
         replace HO315 := Aside0.mk (Kd.R_mono (Kd.R_keep (IsS46.apart (show IsS46 w0 _ g s0_0 t317 from by repeat (first | (with_reducible first | exact HI0.out | apply IsS46.alloc | apply IsS46.drewN | apply IsS46.drew | apply IsS46.set_1 | refine IsS46.far ?_ NB0_312.out _) | exact HI0.out)) (sqR HO315) (by decide)) hk (fun _ h => h.2)) (fun _ h => h.1))
         replace HK := Aside0.mk (KeepBut.trans (Z37 GW312) hk (.inl rfl))
         replace HB := Aside0.mk (hb)
         replace HI0 := Aside0.mk (hi)
         (try clear hb)
         (try clear hb2)
         (try clear hk)
         (try clear hi)
         refine hK.out _ _ trivial (fun hHeld => ?_)
         clear hK K
         refine sqN (some 10) ?_
         refine sqP (i := 7) (N := some 11) (h := ?_)
         refine sqP (i := 8) (N := some 12) (h := ?_)
         refine sqP (i := 9) (N := some 13) (h := ?_)
         refine sqP (i := 10) (N := some 14) (h := ?_)
         exact norm_ Z65 (hJ0_2_4_6 (.slice (some adz_v314) y313.length co14, adz_v314) _ ⟨(sqR HO315), ⟨_, rfl⟩, (sqK BK312), (Z27 HI0 NB0_312), (Z37 GW312), (Z28 HI0 GE312)⟩)
        ·skip
         refine box_step ?hg (N := 3) ?hd (cs := #[.int .i64 0, .string (⟨#[]⟩ : ByteArray)]) (t := 42) ?hr ?_; (case hd => rfl); (case hg => rfl); (case hr => exact Z8)
         intro gb321 hg w15 hbox hb
         replace HO315 := sqU HO315 hb
         replace HB := Aside0.mk (below_step (Z28 HI0 GE312) hb)
         have BK321 := Aside0.mk (hbox)
         have GW321 := Aside0.mk ((Z78 GW312 : w.heap.size ≤ gb321))
         have GE321 := Aside0.mk ((Nat.le_trans HW0.out (Z78 GW312 : w.heap.size ≤ gb321) : w0.heap.size ≤ gb321))
         replace HK := Aside0.mk (KeepBut.trans (Z37 GW312) (KeepBut.of_below hb g none) (.inl rfl))
         have NB312_321 := Aside0.mk ((Z41 BK312 : gb312 ≠ gb321))
         have NB321_312 := Aside0.mk ((Z42 BK312 : gb321 ≠ gb312))
         replace BK312 := sqT BK312 hb
         have NB0_321 := Aside0.mk ((Z68 HI0 NB0_312 : g ≠ gb321))
         have NB321_0 := Aside0.mk ((Z69 HI0 NB0_312 : gb321 ≠ g))
         replace HI0 := Aside0.mk (IsS46.below (Z27 HI0 NB0_312) hb)
         clear hb hbox hg
         refine hK.out _ _ trivial (fun hHeld => ?_)
         clear hK K
         refine sqN (some 3) ?_
         exact norm_ Z65 (hJ0_2_4_11 (.slice (some adz_v314) y313.length co14, adz_v314, gb321) _ ⟨(sqR HO315), ⟨_, rfl⟩, (sqK BK312), (sqK BK321), GW321.out, GE321.out, NB0_321.out, NB321_0.out, NB312_321.out, NB321_312.out, (Z38 HI0 NB0_312 NB0_321), (Z40 GW312 GW321), (Z39 HI0 GE312 GE321)⟩)
      ·skip
       rintro ⟨v314, adz_v314, gb321⟩ w15 ⟨h0_, h1_, h2_, h3_, h4_, h5_, h6_, h7_, h8_, h9_, h10_, h11_, h12_⟩
       have n0_ : Aside0 (Kd.R (Kd.int .i64) 3 w15 w.heap.size (fun _ => True) v314 y313) := ⟨h0_⟩
       have n1_ : Aside0 (∃ c_, (v314 : Value) = .slice (some adz_v314) y313.length c_) := ⟨h1_⟩
       have n2_ : Aside0 (w15.heap[gb312]? = some (.cells #[.int .i64 0, .string (⟨#[]⟩ : ByteArray)] 42 (0, 0))) := ⟨h2_⟩
       have n3_ : Aside0 (w15.heap[gb321]? = some (.cells #[.int .i64 0, .string (⟨#[]⟩ : ByteArray)] 42 (0, 0))) := ⟨h3_⟩
       have n4_ : Aside0 (w.heap.size ≤ gb321) := ⟨h4_⟩
       have n5_ : Aside0 (w0.heap.size ≤ gb321) := ⟨h5_⟩
       have n6_ : Aside0 (g ≠ gb321) := ⟨h6_⟩
       have n7_ : Aside0 (gb321 ≠ g) := ⟨h7_⟩
       have n8_ : Aside0 (gb312 ≠ gb321) := ⟨h8_⟩
       have n9_ : Aside0 (gb321 ≠ gb312) := ⟨h9_⟩
       have n10_ : Aside0 (IsS46 w0 w15 g s0_0 t320) := ⟨h10_⟩
       have n11_ : Aside0 (KeepBut w w15 g none) := ⟨h11_⟩
       have n12_ : Aside0 (Below w0.heap.size w0 w15) := ⟨h12_⟩
       clear BK312
       clear HI0
       clear HK
       clear HB
       clear h0_ h1_ h2_ h3_ h4_ h5_ h6_ h7_ h8_ h9_ h10_ h11_ h12_
       have HO315 := n0_
       have HA_HO315 := n1_
       have BK312 := n2_
       have BK321 := n3_
       have GW321 := n4_
       have GE321 := n5_
       have NB0_321 := n6_
       have NB321_0 := n7_
       have NB312_321 := n8_
       have NB321_312 := n9_
       have HI0 := n10_
       have HK := n11_
       have HB := n12_
       clear n0_ n1_ n2_ n3_ n4_ n5_ n6_ n7_ n8_ n9_ n10_ n11_ n12_
       have hHeld := trivial
       obtain ⟨co16, eo16⟩ := HA_HO315.out
       clear HA_HO315
       subst eo16
       refine norm_ (a' := ?_) ?_ ?_
       rotate_left
       ·simp only [putAll, Act.put, List.setIfInBounds_toArray, List.set_cons_zero, List.set_cons_succ]
        rfl
       refine one_ (i := 4) (N := some 8) #[true, true, true, true, true, true, true, true, true, false, false, true, false] rfl rfl (one_of HT_.out (by kernel_rfl)) (by decide) (fun K hK => ?_)
       (have p318 : 0 ≤ (t316 : Int) := of_decide_eq_true Z7; have q318 : t316 < (y313.length : Int) := of_decide_eq_true Z7; obtain ⟨ad318, e318, hx318_0⟩ := Kd.at_int (Kd.R_reads' HO315.out).2.2 t316 p318 q318; obtain rfl : adz_v314 = ad318 := (by injection e318))
       refine value_ (w1 := ?_) (v := ?_) (by rfl) rfl ?_ ?_
       rotate_left 2
       ·go_simp
        constructor
        ·rfl
        ·rfl
       clear hx318_0
       refine hK.out _ _ trivial (fun hHeld => ?_)
       clear hK K
       refine sqN (some 8) ?_
       refine sqP (i := 9) (N := some 13) (h := ?_)
       refine sqP (i := 10) (N := some 14) (h := ?_)
       exact norm_ Z65 (hJ0_2_4_6_11 (.slice (some adz_v314) y313.length co16, adz_v314, gb321) _ ⟨(sqR HO315), ⟨_, rfl⟩, (sqK BK312), (sqK BK321), GW321.out, GE321.out, NB0_321.out, NB321_0.out, NB312_321.out, NB321_312.out, (Z38 HI0 NB0_312 NB0_321), (Z40 GW312 GW321), (Z39 HI0 GE312 GE321)⟩)
     ·skip
      rintro ⟨v314, adz_v314, gb321⟩ w14 ⟨h0_, h1_, h2_, h3_, h4_, h5_, h6_, h7_, h8_, h9_, h10_, h11_, h12_⟩
      have n0_ : Aside0 (Kd.R (Kd.int .i64) 3 w14 w.heap.size (fun _ => True) v314 y313) := ⟨h0_⟩
      have n1_ : Aside0 (∃ c_, (v314 : Value) = .slice (some adz_v314) y313.length c_) := ⟨h1_⟩
      have n2_ : Aside0 (w14.heap[gb312]? = some (.cells #[.int .i64 0, .string (⟨#[]⟩ : ByteArray)] 42 (0, 0))) := ⟨h2_⟩
      have n3_ : Aside0 (w14.heap[gb321]? = some (.cells #[.int .i64 0, .string (⟨#[]⟩ : ByteArray)] 42 (0, 0))) := ⟨h3_⟩
      have n4_ : Aside0 (w.heap.size ≤ gb321) := ⟨h4_⟩
      have n5_ : Aside0 (w0.heap.size ≤ gb321) := ⟨h5_⟩
      have n6_ : Aside0 (g ≠ gb321) := ⟨h6_⟩
      have n7_ : Aside0 (gb321 ≠ g) := ⟨h7_⟩
      have n8_ : Aside0 (gb312 ≠ gb321) := ⟨h8_⟩
      have n9_ : Aside0 (gb321 ≠ gb312) := ⟨h9_⟩
      have n10_ : Aside0 (IsS46 w0 w14 g s0_0 t317) := ⟨h10_⟩
      have n11_ : Aside0 (KeepBut w w14 g none) := ⟨h11_⟩
      have n12_ : Aside0 (Below w0.heap.size w0 w14) := ⟨h12_⟩
      clear BK312
      clear HI0
      clear HK
      clear HB
      clear h0_ h1_ h2_ h3_ h4_ h5_ h6_ h7_ h8_ h9_ h10_ h11_ h12_
      have HO315 := n0_
      have HA_HO315 := n1_
      have BK312 := n2_
      have BK321 := n3_
      have GW321 := n4_
      have GE321 := n5_
      have NB0_321 := n6_
      have NB321_0 := n7_
      have NB312_321 := n8_
      have NB321_312 := n9_
      have HI0 := n10_
      have HK := n11_
      have HB := n12_
      clear n0_ n1_ n2_ n3_ n4_ n5_ n6_ n7_ n8_ n9_ n10_ n11_ n12_
      have hHeld := trivial
      obtain ⟨co15, eo15⟩ := HA_HO315.out
      clear HA_HO315
      subst eo15
      refine norm_ (a' := ?_) ?_ ?_
      rotate_left
      ·simp only [putAll, Act.put, List.setIfInBounds_toArray, List.set_cons_zero, List.set_cons_succ]
       rfl
      refine one_ (i := 6) (N := some 10) #[true, true, true, true, true, true, true, false, false, false, false, true, false] rfl rfl (one_of HT_.out (by kernel_rfl)) (by decide) (fun K hK => ?_)
      refine goes_ Try.func15 (by kernel_rfl) rfl #[.pointer (some ⟨g, 0, none⟩), .int .i64 60] (by rfl) rfl rfl sqA ?_
      with_reducible refine (spec_l20Rd_pick.calls k g s0_0 t317 60 t319 t320 w0 _ ?side1 ?side2 A5.out).mono ?_
      (case side1 => exact Z38 HI0 NB0_312 NB0_321)
      (case side2 => exact Z39 HI0 GE312 GE321)
      rintro e w16 ⟨rfl, hi, hb, hk⟩
      refine ⟨_, rfl, ?_⟩
      replace BK312 := Aside0.mk (KeepBut.blk hk (g' := gb312) (o := .cells #[.int .i64 0, .string (⟨#[]⟩ : ByteArray)] 42 (0, 0)) (sqK BK312) NB312_0.out (by simp))
      replace HO315 := Aside0.mk (Kd.R_mono (Kd.R_keep (IsS46.apart (show IsS46 w0 _ g s0_0 t317 from by repeat (first | (with_reducible first | exact HI0.out | apply IsS46.alloc | apply IsS46.drewN | apply IsS46.drew | apply IsS46.set_1 | refine IsS46.far ?_ NB0_312.out _ | refine IsS46.far ?_ NB0_321.out _) | exact HI0.out)) (sqR HO315) (by decide)) hk (fun _ h => h.2)) (fun _ h => h.1))
      replace BK321 := Aside0.mk (KeepBut.blk hk (g' := gb321) (o := .cells #[.int .i64 0, .string (⟨#[]⟩ : ByteArray)] 42 (0, 0)) (sqK BK321) NB321_0.out (by simp))
      replace HK := Aside0.mk (KeepBut.trans (Z40 GW312 GW321) hk (.inl rfl))
      replace HB := Aside0.mk (hb)
      replace HI0 := Aside0.mk (hi)
      (try clear hb)
      (try clear hb2)
      (try clear hk)
      (try clear hi)
      refine hK.out _ _ trivial (fun hHeld => ?_)
      clear hK K
      refine sqN (some 10) ?_
      refine sqP (i := 7) (N := some 11) (h := ?_)
      refine sqP (i := 8) (N := some 12) (h := ?_)
      refine sqP (i := 9) (N := some 13) (h := ?_)
      refine sqP (i := 10) (N := some 14) (h := ?_)
      exact norm_ Z65 (hJ0_2_4_6_11 (.slice (some adz_v314) y313.length co15, adz_v314, gb321) _ ⟨(sqR HO315), ⟨_, rfl⟩, (sqK BK312), (sqK BK321), GW321.out, GE321.out, NB0_321.out, NB321_0.out, NB312_321.out, NB321_312.out, (Z38 HI0 NB0_312 NB0_321), (Z40 GW312 GW321), (Z39 HI0 GE312 GE321)⟩)
    ·skip
     rintro ⟨v314, adz_v314⟩ w14 ⟨h0_, h1_, h2_, h3_, h4_, h5_⟩
     have n0_ : Aside0 (Kd.R (Kd.int .i64) 3 w14 w.heap.size (fun _ => True) v314 y313) := ⟨h0_⟩
     have n1_ : Aside0 (∃ c_, (v314 : Value) = .slice (some adz_v314) y313.length c_) := ⟨h1_⟩
     have n2_ : Aside0 (w14.heap[gb312]? = some (.cells #[.int .i64 0, .string (⟨#[]⟩ : ByteArray)] 42 (0, 0))) := ⟨h2_⟩
     have n3_ : Aside0 (IsS46 w0 w14 g s0_0 t320) := ⟨h3_⟩
     have n4_ : Aside0 (KeepBut w w14 g none) := ⟨h4_⟩
     have n5_ : Aside0 (Below w0.heap.size w0 w14) := ⟨h5_⟩
     clear BK312
     clear HI0
     clear HK
     clear HB
     clear h0_ h1_ h2_ h3_ h4_ h5_
     have HO315 := n0_
     have HA_HO315 := n1_
     have BK312 := n2_
     have HI0 := n3_
     have HK := n4_
     have HB := n5_
     clear n0_ n1_ n2_ n3_ n4_ n5_
     have hHeld := trivial
     obtain ⟨co15, eo15⟩ := HA_HO315.out
     clear HA_HO315
     subst eo15
     refine norm_ (a' := ?_) ?_ ?_
     rotate_left
     ·simp only [putAll, Act.put, List.setIfInBounds_toArray, List.set_cons_zero, List.set_cons_succ]
      rfl
     refine one_ (i := 11) (N := some 3) #[true, true, true, true, true, true, true, true, true, true, true, true, false] rfl rfl (one_of HT_.out (by kernel_rfl)) (by decide) (fun K hK => ?_)
     refine box_step ?hg (N := 3) ?hd (cs := #[.int .i64 0, .string (⟨#[]⟩ : ByteArray)]) (t := 42) ?hr ?_; (case hd => rfl); (case hg => rfl); (case hr => exact Z8)
     intro gb321 hg w16 hbox hb
     replace HO315 := sqU HO315 hb
     replace HB := Aside0.mk (below_step (Z28 HI0 GE312) hb)
     have BK321 := Aside0.mk (hbox)
     have GW321 := Aside0.mk ((Z78 GW312 : w.heap.size ≤ gb321))
     have GE321 := Aside0.mk ((Nat.le_trans HW0.out (Z78 GW312 : w.heap.size ≤ gb321) : w0.heap.size ≤ gb321))
     replace HK := Aside0.mk (KeepBut.trans (Z37 GW312) (KeepBut.of_below hb g none) (.inl rfl))
     have NB312_321 := Aside0.mk ((Z41 BK312 : gb312 ≠ gb321))
     have NB321_312 := Aside0.mk ((Z42 BK312 : gb321 ≠ gb312))
     replace BK312 := sqT BK312 hb
     have NB0_321 := Aside0.mk ((Z70 HI0 NB0_312 : g ≠ gb321))
     have NB321_0 := Aside0.mk ((Z71 HI0 NB0_312 : gb321 ≠ g))
     replace HI0 := Aside0.mk (IsS46.below (Z27 HI0 NB0_312) hb)
     clear hb hbox hg
     refine hK.out _ _ trivial (fun hHeld => ?_)
     clear hK K
     refine sqN (some 3) ?_
     exact norm_ Z65 (hJ0_2_4_6_11 (.slice (some adz_v314) y313.length co15, adz_v314, gb321) _ ⟨(sqR HO315), ⟨_, rfl⟩, (sqK BK312), (sqK BK321), GW321.out, GE321.out, NB0_321.out, NB321_0.out, NB312_321.out, NB321_312.out, (Z38 HI0 NB0_312 NB0_321), (Z40 GW312 GW321), (Z39 HI0 GE312 GE321)⟩)
   rintro ⟨v314, adz_v314, gb321⟩ w15 ⟨h0_, h1_, h2_, h3_, h4_, h5_, h6_, h7_, h8_, h9_, h10_, h11_, h12_⟩
   have n0_ : Aside0 (Kd.R (Kd.int .i64) 3 w15 w.heap.size (fun _ => True) v314 y313) := ⟨h0_⟩
   have n1_ : Aside0 (∃ c_, (v314 : Value) = .slice (some adz_v314) y313.length c_) := ⟨h1_⟩
   have n2_ : Aside0 (w15.heap[gb312]? = some (.cells #[.int .i64 0, .string (⟨#[]⟩ : ByteArray)] 42 (0, 0))) := ⟨h2_⟩
   have n3_ : Aside0 (w15.heap[gb321]? = some (.cells #[.int .i64 0, .string (⟨#[]⟩ : ByteArray)] 42 (0, 0))) := ⟨h3_⟩
   have n4_ : Aside0 (w.heap.size ≤ gb321) := ⟨h4_⟩
   have n5_ : Aside0 (w0.heap.size ≤ gb321) := ⟨h5_⟩
   have n6_ : Aside0 (g ≠ gb321) := ⟨h6_⟩
   have n7_ : Aside0 (gb321 ≠ g) := ⟨h7_⟩
   have n8_ : Aside0 (gb312 ≠ gb321) := ⟨h8_⟩
   have n9_ : Aside0 (gb321 ≠ gb312) := ⟨h9_⟩
   have n10_ : Aside0 (IsS46 w0 w15 g s0_0 t320) := ⟨h10_⟩
   have n11_ : Aside0 (KeepBut w w15 g none) := ⟨h11_⟩
   have n12_ : Aside0 (Below w0.heap.size w0 w15) := ⟨h12_⟩
   clear BK312
   clear HI0
   clear HK
   clear HB
   clear h0_ h1_ h2_ h3_ h4_ h5_ h6_ h7_ h8_ h9_ h10_ h11_ h12_
   have HO315 := n0_
   have HA_HO315 := n1_
   have BK312 := n2_
   have BK321 := n3_
   have GW321 := n4_
   have GE321 := n5_
   have NB0_321 := n6_
   have NB321_0 := n7_
   have NB312_321 := n8_
   have NB321_312 := n9_
   have HI0 := n10_
   have HK := n11_
   have HB := n12_
   clear n0_ n1_ n2_ n3_ n4_ n5_ n6_ n7_ n8_ n9_ n10_ n11_ n12_
   have hHeld := trivial
   obtain ⟨co16, eo16⟩ := HA_HO315.out
   clear HA_HO315
   subst eo16
   refine norm_ (a' := ?_) ?_ ?_
   rotate_left
   ·simp only [putAll, Act.put, List.setIfInBounds_toArray, List.set_cons_zero, List.set_cons_succ]
    rfl
   refine one_ (i := 12) (N := none) #[true, true, true, true, true, true, true, true, true, true, true, true, true] rfl rfl (one_of HT_.out (by kernel_rfl)) (by decide) (fun K hK => ?_)
   have hs17 : w15.cell? ⟨gb321, 0, none⟩ = some (.int .i64 0) := (blk_cell BK321.out 0).trans rfl
   have hfs17 := blk_frozen BK321.out 0
   have hns17_0 := NB312_321.out
   have hms17_0 := NB321_312.out
   have hs18 : w15.cell? ⟨gb321, 1, none⟩ = some (.string (⟨#[]⟩ : ByteArray)) := (blk_cell BK321.out 1).trans rfl
   have hfs18 := blk_frozen BK321.out 1
   have hns18_0 := NB312_321.out
   have hms18_0 := NB321_312.out
   refine skip_ (w1 := ?_) (by rfl) rfl ?_ ?_
   rotate_left
   ·go_simp
    rfl
   refine hK.out _ _ trivial (fun hHeld => ?_)
   clear hK K
   refine done_ (done_of HT_.out (by kernel_rfl)) ?_
   have hnb19 := NB321_312.out
   have hnc19 := NB312_321.out
   have hnb20 := NB321_0.out
   have hnc20 := NB0_321.out
   obtain ⟨hcz21_0, hcz21_1, hfz21_0, hfz21_1⟩ := sqY2 BK321
   go_upto_block 0 with (fail)
   go_cut [] (fun wc => ∃ (kq : Nat) (x1001_5 : Int) (x322001_5 : ByteArray), Aside0 (spec_l20Deed.j0 kq s0_0 x1001_5 (wrap64 ((rd y313 t316) + (wrap64 ((wrap64 (Int.tdiv t319 59)) * 5)))) x322001_5 = some (r1, r2, r3)) ∧ Aside0 (kq ≤ k) ∧ Aside0 (wc.heap[gb312]? = some (.cells #[.int .i64 0, .string (⟨#[]⟩ : ByteArray)] 42 (0, 0))) ∧ Aside0 (wc.heap[gb321]? = some (.cells #[.int .i64 (wrap64 ((rd y313 t316) + (wrap64 ((wrap64 (Int.tdiv t319 59)) * 5)))), .string x322001_5] 42 (0, 0))) ∧ Aside0 (IsS46 w0 wc g s0_0 x1001_5) ∧ Aside0 (KeepBut w wc g none) ∧ Aside0 (Below w0.heap.size w0 wc))
   case first =>
    have H := HC6.out
    clear HC6
    by_cases c22 : (wrap64 ((rd y313 t316) + (wrap64 ((wrap64 (Int.tdiv t319 59)) * 5)))) = 0
    ·rw [if_pos c22] at H
     have c22b0 : ((wrap64 ((rd y313 t316) + (wrap64 ((wrap64 (Int.tdiv t319 59)) * 5)))) == 0) = true := beq_iff_eq.mpr c22
     have c22b1 : ((wrap64 ((rd y313 t316) + (wrap64 ((wrap64 (Int.tdiv t319 59)) * 5)))) != 0) = false := bne_eq_false_iff_eq.mpr c22
     clear c22
     (first | rw [c22b0] | (simp only [i64_w, i32_w]; rw [c22b0]) | skip)
     replace H := Option.bind_eq_some_iff.mp H
     obtain ⟨⟨t322, t323⟩, A230, H⟩ := H
     replace H : (spec_l20Deed.j0 k s0_0 t323 (wrap64 ((rd y313 t316) + (wrap64 ((wrap64 (Int.tdiv t319 59)) * 5)))) t322) = some (r1, r2, r3) := H
     have A23 := Aside0.mk A230
     clear A230
     have H' := Aside0.mk H
     clear H
     go_wp2_with (first | ((with_reducible refine gate_callee (f := 27) rfl ?_); refine goesL_ (some 20) rfl rfl Try.func27 (by kernel_rfl) rfl #[.pointer (some ⟨g, 0, none⟩), .int .i64 6, .int .i64 20] rfl sqA ?_; (with_reducible refine (spec_l20Dance.calls k g s0_0 t320 6 20 t322 t323 w0 _ ?side1 ?side2 A23.out).mono ?_); (case side1 => exact Z38 HI0 NB0_312 NB0_321); (case side2 => exact Z39 HI0 GE312 GE321); rintro e w24 ⟨rfl, hi, hb, hk⟩; refine ⟨_, rfl, ?_⟩; replace BK312 := Aside0.mk (KeepBut.blk hk (g' := gb312) (o := .cells #[.int .i64 0, .string (⟨#[]⟩ : ByteArray)] 42 (0, 0)) (Z9 NB312_321 BK312) NB312_0.out (by simp)); replace HO315 := Aside0.mk (Kd.R_mono (Kd.R_keep (IsS46.apart (show IsS46 w0 _ g s0_0 t320 from by repeat (first | (with_reducible first | exact HI0.out | apply IsS46.alloc | apply IsS46.drewN | apply IsS46.drew | apply IsS46.set_1 | refine IsS46.far ?_ NB0_312.out _ | refine IsS46.far ?_ NB0_321.out _) | exact HI0.out)) (Z72 HO315 BK321) (by decide)) hk (fun _ h => h.2)) (fun _ h => h.1)); replace BK321 := Aside0.mk (KeepBut.blk hk (g' := gb321) (o := .cells #[.int .i64 (wrap64 ((rd y313 t316) + (wrap64 ((wrap64 (Int.tdiv t319 59)) * 5)))), .string (⟨#[]⟩ : ByteArray)] 42 (0, 0)) (Z73 BK321) NB321_0.out (by simp)); replace HK := Aside0.mk (KeepBut.trans (Z40 GW312 GW321) hk (.inl rfl)); replace HB := Aside0.mk (hb); replace HI0 := Aside0.mk (hi); (try clear hb); have hnb25 := NB321_312.out; have hnc25 := NB312_321.out; have hnb26 := NB321_0.out; have hnc26 := NB0_321.out; have hcz27_0 : w24.cell? ⟨gb321, 0, none⟩ = some (.int .i64 (wrap64 ((rd y313 t316) + (wrap64 ((wrap64 (Int.tdiv t319 59)) * 5))))) := (blk_cell BK321.out 0).trans rfl; have hcz27_1 := sqZ BK321 1 (.string (⟨#[]⟩ : ByteArray)); have hfz27_0 := blk_frozen BK321.out 0; have hfz27_1 := blk_frozen BK321.out 1))
     go_meet
     case rel => exact ⟨_, (t323), (t322), H', ⟨Z3⟩, ⟨by refine sqFar ?_ NB312_321; exact sqK BK312⟩, ⟨Z74 BK321⟩, ⟨Z38 HI0 NB0_312 NB0_321⟩, ⟨Z40 GW312 GW321⟩, ⟨Z39 HI0 GE312 GE321⟩⟩
    ·rw [if_neg c22] at H
     have c22b0 : ((wrap64 ((rd y313 t316) + (wrap64 ((wrap64 (Int.tdiv t319 59)) * 5)))) == 0) = false := beq_eq_false_iff_ne.mpr c22
     have c22b1 : ((wrap64 ((rd y313 t316) + (wrap64 ((wrap64 (Int.tdiv t319 59)) * 5)))) != 0) = true := bne_iff_ne.mpr c22
     (first | rw [c22b0] | (simp only [i64_w, i32_w]; rw [c22b0]) | skip)
     by_cases c28 : (wrap64 ((rd y313 t316) + (wrap64 ((wrap64 (Int.tdiv t319 59)) * 5)))) = 1
     ·rw [if_pos c28] at H
      have c28b0 : ((wrap64 ((rd y313 t316) + (wrap64 ((wrap64 (Int.tdiv t319 59)) * 5)))) == 1) = true := beq_iff_eq.mpr c28
      have c28b1 : ((wrap64 ((rd y313 t316) + (wrap64 ((wrap64 (Int.tdiv t319 59)) * 5)))) != 1) = false := bne_eq_false_iff_eq.mpr c28
      clear c28
      replace H := Option.bind_eq_some_iff.mp H
      obtain ⟨⟨t324, t325, t326⟩, A290, H⟩ := H
      replace H : ((spec_FractionText.f k t324 t325).bind fun t327 => (spec_l20Deed.j0 k s0_0 t326 (wrap64 ((rd y313 t316) + (wrap64 ((wrap64 (Int.tdiv t319 59)) * 5)))) t327)) = some (r1, r2, r3) := H
      have A29 := Aside0.mk A290
      clear A290
      obtain ⟨t327, A30, H⟩ := sqD H
      have H' := Aside0.mk H
      clear H
      go_wp2_with (first | ((with_reducible refine gate_callee (f := 29) rfl ?_); refine goesL_ (some 25) rfl rfl Try.func29 (by kernel_rfl) rfl #[.pointer (some ⟨g, 0, none⟩)] rfl sqA ?_; (with_reducible refine (spec_l20Tied.calls k g s0_0 t320 t324 t325 t326 w0 _ ?side1 ?side2 A29.out).mono ?_); (case side1 => exact Z38 HI0 NB0_312 NB0_321); (case side2 => exact Z39 HI0 GE312 GE321); rintro e w31 ⟨rfl, hi, hb, hk⟩; refine ⟨_, rfl, ?_⟩; replace BK312 := Aside0.mk (KeepBut.blk hk (g' := gb312) (o := .cells #[.int .i64 0, .string (⟨#[]⟩ : ByteArray)] 42 (0, 0)) (Z9 NB312_321 BK312) NB312_0.out (by simp)); replace HO315 := Aside0.mk (Kd.R_mono (Kd.R_keep (IsS46.apart (show IsS46 w0 _ g s0_0 t320 from by repeat (first | (with_reducible first | exact HI0.out | apply IsS46.alloc | apply IsS46.drewN | apply IsS46.drew | apply IsS46.set_1 | refine IsS46.far ?_ NB0_312.out _ | refine IsS46.far ?_ NB0_321.out _) | exact HI0.out)) (Z72 HO315 BK321) (by decide)) hk (fun _ h => h.2)) (fun _ h => h.1)); replace BK321 := Aside0.mk (KeepBut.blk hk (g' := gb321) (o := .cells #[.int .i64 (wrap64 ((rd y313 t316) + (wrap64 ((wrap64 (Int.tdiv t319 59)) * 5)))), .string (⟨#[]⟩ : ByteArray)] 42 (0, 0)) (Z73 BK321) NB321_0.out (by simp)); replace HK := Aside0.mk (KeepBut.trans (Z40 GW312 GW321) hk (.inl rfl)); replace HB := Aside0.mk (hb); replace HI0 := Aside0.mk (hi); (try clear hb)) | ((with_reducible refine gate_callee (f := 28) rfl ?_); refine goesL_ (some 26) rfl rfl Try.func28 (by kernel_rfl) rfl #[.agg #[.int .i64 t324, .int .i64 t325]] rfl sqA ?_; (with_reducible refine (spec_FractionText.calls k t324 t325 t327 _ A30.out).mono ?_); rintro e w32 ⟨rfl, hb⟩; refine ⟨_, rfl, ?_⟩; replace HO315 := sqU HO315 hb; replace BK312 := sqT BK312 hb; replace BK321 := sqT BK321 hb; replace HK := Aside0.mk (KeepBut.trans (Z40 GW312 GW321) (KeepBut.of_below hb g none) (.inl rfl)); replace HB := Aside0.mk (below_step (Z39 HI0 GE312 GE321) hb); replace HI0 := Aside0.mk (IsS46.below (Z38 HI0 NB0_312 NB0_321) hb); (try clear hb); have hnb33 := NB321_312.out; have hnc33 := NB312_321.out; have hnb34 := NB321_0.out; have hnc34 := NB0_321.out; have hcz35_0 : w32.cell? ⟨gb321, 0, none⟩ = some (.int .i64 (wrap64 ((rd y313 t316) + (wrap64 ((wrap64 (Int.tdiv t319 59)) * 5))))) := (blk_cell BK321.out 0).trans rfl; have hcz35_1 := sqZ BK321 1 (.string (⟨#[]⟩ : ByteArray)); have hfz35_0 := blk_frozen BK321.out 0; have hfz35_1 := blk_frozen BK321.out 1))
      go_meet
      case rel => exact ⟨_, (t326), (t327), H', ⟨Z3⟩, ⟨by refine sqFar ?_ NB312_321; exact sqK BK312⟩, ⟨Z74 BK321⟩, ⟨Z38 HI0 NB0_312 NB0_321⟩, ⟨Z40 GW312 GW321⟩, ⟨Z39 HI0 GE312 GE321⟩⟩
     ·rw [if_neg c28] at H
      have c28b0 : ((wrap64 ((rd y313 t316) + (wrap64 ((wrap64 (Int.tdiv t319 59)) * 5)))) == 1) = false := beq_eq_false_iff_ne.mpr c28
      have c28b1 : ((wrap64 ((rd y313 t316) + (wrap64 ((wrap64 (Int.tdiv t319 59)) * 5)))) != 1) = true := bne_iff_ne.mpr c28
      have H' := Aside0.mk H
      clear H
      go_wp2
      go_meet
      case rel => exact ⟨_, (t320), ((⟨#[]⟩ : ByteArray)), H', ⟨Z3⟩, ⟨Z9 NB312_321 BK312⟩, ⟨Z73 BK321⟩, ⟨Z38 HI0 NB0_312 NB0_321⟩, ⟨Z40 GW312 GW321⟩, ⟨Z39 HI0 GE312 GE321⟩⟩
   case rest =>
    clear HC6
    try clear c1; try clear c2; try clear p2; try clear c3; try clear p3; try clear q3; try clear hx3; try clear p6; try clear c15; try clear c19; try clear c20; try clear c22; try clear c22b0; try clear c22b1; try clear c25; try clear c26; try clear c27; try clear c28; try clear c28b0; try clear c28b1; try clear c29; try clear p31; try clear q31; try clear hx31; try clear c33; try clear c34; try clear hcz21_0; try clear hcz21_1; try clear hcz27_0; try clear hcz27_1; try clear hcz35_0; try clear hcz35_1; try clear hfz21_0; try clear hfz21_1; try clear hfz27_0; try clear hfz27_1; try clear hfz35_0; try clear hfz35_1; try clear hx318_0; try clear p318; try clear q318
    obtain ⟨kq, x1001_5, x322001_5, HA, HJ5, BK312, BK321, HI0, HK, HB⟩ := hcut
    cases kq with
    | zero => exact absurd HA.out (by simp [spec_l20Deed.j0])
    | succ kj5 =>
     have H := HA.out
     clear HA
     simp only [spec_l20Deed.j0] at H
     replace H := Option.bind_eq_some_iff.mp H
     obtain ⟨⟨t328, t329⟩, A360, H⟩ := H
     replace H : (if t328 = true then (if x322001_5.size + 1 ≤ 9223372036854775807 then (some ((wrap64 ((rd y313 t316) + (wrap64 ((wrap64 (Int.tdiv t319 59)) * 5)))), x322001_5 ++ (⟨#[120]⟩ : ByteArray), t329)) else (none)) else (some ((wrap64 ((rd y313 t316) + (wrap64 ((wrap64 (Int.tdiv t319 59)) * 5)))), x322001_5, t329))) = some (r1, r2, r3) := H
     have A36 := Aside0.mk A360
     clear A360
     by_cases c37 : t328 = true
     ·subst c37
      have H1 : (if x322001_5.size + 1 ≤ 9223372036854775807 then (some ((wrap64 ((rd y313 t316) + (wrap64 ((wrap64 (Int.tdiv t319 59)) * 5)))), x322001_5 ++ (⟨#[120]⟩ : ByteArray), t329)) else (none)) = some (r1, r2, r3) := by rw [if_pos rfl] at H; exact H
      clear H
      have H := H1
      clear H1
      by_cases c38 : x322001_5.size + 1 ≤ 9223372036854775807
      ·rw [if_pos c38] at H
       have c38b0 := eq_true c38
       have c38b1 : decide (x322001_5.size + 1 ≤ 9223372036854775807) = true := decide_eq_true c38
       try have c38b2 : (9223372036854775807 < x322001_5.size + 1) = False := eq_false (Nat.not_lt.2 c38)
       simp only [Option.some.injEq, Prod.mk.injEq] at H
       obtain ⟨rfl, rfl, rfl⟩ := H
       go_wp2_with (first | ((with_reducible refine gate_callee (f := 18) rfl ?_); refine goesL_ (some 29) rfl rfl Try.func18 (by kernel_rfl) rfl #[.pointer (some ⟨g, 0, none⟩), .int .i64 40] rfl sqA ?_; (with_reducible refine (spec_l20Rd_odd.calls kj5 g s0_0 x1001_5 40 true t329 w0 _ ?side1 ?side2 A36.out).mono ?_); (case side1 => exact Z38 HI0 NB0_312 NB0_321); (case side2 => exact Z39 HI0 GE312 GE321); rintro e w39 ⟨rfl, hi, hb, hk⟩; refine ⟨_, rfl, ?_⟩; replace BK312 := Aside0.mk (KeepBut.blk hk (g' := gb312) (o := .cells #[.int .i64 0, .string (⟨#[]⟩ : ByteArray)] 42 (0, 0)) (sqK BK312) NB312_0.out (by simp)); replace BK321 := Aside0.mk (KeepBut.blk hk (g' := gb321) (o := .cells #[.int .i64 (wrap64 ((rd y313 t316) + (wrap64 ((wrap64 (Int.tdiv t319 59)) * 5)))), .string x322001_5] 42 (0, 0)) (sqK BK321) NB321_0.out (by simp)); replace HK := Aside0.mk (KeepBut.trans (Z40 GW312 GW321) hk (.inl rfl)); replace HB := Aside0.mk (hb); replace HI0 := Aside0.mk (hi); (try clear hb); have hnb40 := NB321_312.out; have hnc40 := NB312_321.out; have hnb41 := NB321_0.out; have hnc41 := NB0_321.out; have hcz42_0 : w39.cell? ⟨gb321, 0, none⟩ = some (.int .i64 (wrap64 ((rd y313 t316) + (wrap64 ((wrap64 (Int.tdiv t319 59)) * 5))))) := (blk_cell BK321.out 0).trans rfl; have hcz42_1 := sqZ BK321 1 (.string x322001_5); have hfz42_0 := blk_frozen BK321.out 0; have hfz42_1 := blk_frozen BK321.out 1; have hnb43 := NB312_0.out; have hnc43 := NB0_312.out; obtain ⟨hcz44_0, hcz44_1, hfz44_0, hfz44_1⟩ := sqY2 BK312))
       refine bodyPost_ret (results_cell_row rfl _ _ gb312 42 #[.int .i64 (wrap64 ((rd y313 t316) + (wrap64 ((wrap64 (Int.tdiv t319 59)) * 5)))), .string (x322001_5 ++ (⟨#[120]⟩ : ByteArray))] (0, 0) _ rfl (by refine sqPut (cs := #[.int .i64 (wrap64 ((rd y313 t316) + (wrap64 ((wrap64 (Int.tdiv t319 59)) * 5)))), .string (⟨#[]⟩ : ByteArray)]) ?_ 1; refine sqPut (cs := #[.int .i64 0, .string (⟨#[]⟩ : ByteArray)]) ?_ 0; refine sqFar ?_ NB312_321; exact sqK BK312) Try.underlying42 rfl (by kernel_rfl)) rfl ?_
       exact ⟨Z14, Z38 HI0 NB0_312 NB0_321, Z39 HI0 GE312 GE321, Z40 GW312 GW321⟩
      ·rw [if_neg c38] at H
       exact absurd H (by simp)
     ·replace c37 := Bool.eq_false_iff.mpr c37
      subst c37
      have H1 : (some ((wrap64 ((rd y313 t316) + (wrap64 ((wrap64 (Int.tdiv t319 59)) * 5)))), x322001_5, t329)) = some (r1, r2, r3) := by rw [if_neg (show ¬ (false = true) by decide)] at H; exact H
      clear H
      have H := H1
      clear H1
      simp only [Option.some.injEq, Prod.mk.injEq] at H
      obtain ⟨rfl, rfl, rfl⟩ := H
      go_wp2_with (first | ((with_reducible refine gate_callee (f := 18) rfl ?_); refine goesL_ (some 29) rfl rfl Try.func18 (by kernel_rfl) rfl #[.pointer (some ⟨g, 0, none⟩), .int .i64 40] rfl sqA ?_; (with_reducible refine (spec_l20Rd_odd.calls kj5 g s0_0 x1001_5 40 false t329 w0 _ ?side1 ?side2 A36.out).mono ?_); (case side1 => exact Z38 HI0 NB0_312 NB0_321); (case side2 => exact Z39 HI0 GE312 GE321); rintro e w45 ⟨rfl, hi, hb, hk⟩; refine ⟨_, rfl, ?_⟩; replace BK312 := Aside0.mk (KeepBut.blk hk (g' := gb312) (o := .cells #[.int .i64 0, .string (⟨#[]⟩ : ByteArray)] 42 (0, 0)) (sqK BK312) NB312_0.out (by simp)); replace BK321 := Aside0.mk (KeepBut.blk hk (g' := gb321) (o := .cells #[.int .i64 (wrap64 ((rd y313 t316) + (wrap64 ((wrap64 (Int.tdiv t319 59)) * 5)))), .string x322001_5] 42 (0, 0)) (sqK BK321) NB321_0.out (by simp)); replace HK := Aside0.mk (KeepBut.trans (Z40 GW312 GW321) hk (.inl rfl)); replace HB := Aside0.mk (hb); replace HI0 := Aside0.mk (hi); (try clear hb); have hnb46 := NB321_312.out; have hnc46 := NB312_321.out; have hnb47 := NB321_0.out; have hnc47 := NB0_321.out; have hcz48_0 : w45.cell? ⟨gb321, 0, none⟩ = some (.int .i64 (wrap64 ((rd y313 t316) + (wrap64 ((wrap64 (Int.tdiv t319 59)) * 5))))) := (blk_cell BK321.out 0).trans rfl; have hcz48_1 := sqZ BK321 1 (.string x322001_5); have hfz48_0 := blk_frozen BK321.out 0; have hfz48_1 := blk_frozen BK321.out 1; have hnb49 := NB312_0.out; have hnc49 := NB0_312.out; obtain ⟨hcz50_0, hcz50_1, hfz50_0, hfz50_1⟩ := sqY2 BK312))
      refine bodyPost_ret (results_cell_row rfl _ _ gb312 42 #[.int .i64 (wrap64 ((rd y313 t316) + (wrap64 ((wrap64 (Int.tdiv t319 59)) * 5)))), .string x322001_5] (0, 0) _ rfl (Z73 BK312) Try.underlying42 rfl (by kernel_rfl)) rfl ?_
      exact ⟨Z14, Z38 HI0 NB0_312 NB0_321, Z39 HI0 GE312 GE321, Z40 GW312 GW321⟩
  ·rw [if_neg c4] at H
   exact absurd H (by simp)
 ·rw [if_neg c3] at H
  exact absurd H (by simp)

end Go.Proofs.Ytcfnihniaakbeaa.PFnDeskOk
