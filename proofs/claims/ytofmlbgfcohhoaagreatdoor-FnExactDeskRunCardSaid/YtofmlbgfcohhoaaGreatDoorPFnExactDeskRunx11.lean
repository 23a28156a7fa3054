/- Lean functions of the Go functions that the law FnExactDeskRun reaches, each with its contract: made by a program of this session. -/
import Derived.Test.YtofmlbgfcohhoaaGreatDoorPFnExactDeskRunx0
import Derived.Test.YtofmlbgfcohhoaaGreatDoorPFnExactDeskRunx8
import Derived.Test.YtofmlbgfcohhoaaGreatDoorPFnExactDeskRunx10
namespace Go.Proofs.YtofmlbgfcohhoaaGreatDoor.PFnExactDeskRun
open Go.RowKit Go.Proofs.YtofmlbgfcohhoaaGreatDoorW.PrintWords Go.Proofs.YtofmlbgfcohhoaaGreatDoorW.PrintLast Go.Proofs.YtofmlbgfcohhoaaGreatDoorW.PrintMore Go.Proofs.YtofmlbgfcohhoaaGreatDoor.Lib
attribute [local go_sem] max2_int min2_int max_two min_two max_three min_three max_four min_four   -- for this text's walks alone
set_option linter.unusedVariables false
set_option linter.unusedSimpArgs false

/-! ### spec_DancedFrom: function 106 -/
mutual
def spec_DancedFrom.j0 : Nat → ByteArray → Bool → Int → Int → Option (Int × Int × Bool)
 | 0, _, _, _, _ => none
 | k + 1, x1, x17, x326000, x326001 => if x17 = true then (some (0, 0, false)) else (spec_DancedFrom.l0 k x1 0 x326000 x326001)
def spec_DancedFrom.l0 : Nat → ByteArray → Int → Int → Int → Option (Int × Int × Bool)
 | 0, _, _, _, _ => none
 | k + 1, x1, x7, x330000, x330001 => if x7 < (x1.size : Int) then (if 0 ≤ x7 then ((spec_l2Move.f k x330000 x330001 (bt x1 x7)).bind fun bt330 => (if bt330.2.2 = true then (spec_DancedFrom.l0 k x1 (wrap64 (x7 + 1)) bt330.1 bt330.2.1) else (some (0, 0, false)))) else (none)) else (some (x330000, x330001, true))
end
def spec_DancedFrom.f (k : Nat) (a0_0 : Int) (a0_1 : Int) (a1 : ByteArray) : Option (Int × Int × Bool) := (spec_DanceOk.f k a1).bind fun t327 => (if t327 = true then ((spec_FractionOk.f k a0_0 a0_1).bind fun t328 => (spec_DancedFrom.j0 k a1 (!t328) a0_0 a0_1)) else (spec_DancedFrom.j0 k a1 true a0_0 a0_1))
theorem spec_DancedFrom.mono_l : ∀ k, (∀ y0 y1 y2 y3, LeO (spec_DancedFrom.j0 k y0 y1 y2 y3) (spec_DancedFrom.j0 (k + 1) y0 y1 y2 y3)) ∧ (∀ y0 y1 y2 y3, LeO (spec_DancedFrom.l0 k y0 y1 y2 y3) (spec_DancedFrom.l0 (k + 1) y0 y1 y2 y3))
 | 0 => ⟨fun _ _ _ _ r h => by simp [spec_DancedFrom.j0] at h, fun _ _ _ _ r h => by simp [spec_DancedFrom.l0] at h⟩
 | k + 1 => by
  obtain ⟨ih0, ih1⟩ := spec_DancedFrom.mono_l k
  refine ⟨?_, ?_⟩
  ·intro y0 y1 y2 y3
   unfold spec_DancedFrom.j0
   repeat' first
   | (with_reducible exact ih0 _ _ _ _)
   | (with_reducible exact ih1 _ _ _ _)
   | (with_reducible exact spec_DanceOk.mono _ _)
   | (with_reducible exact spec_FractionOk.mono _ _ _)
   | (with_reducible exact spec_l2Move.mono _ _ _ _)
   | (with_reducible exact LeO.refl _)
   | (with_reducible exact LeO.none _)
   | (with_reducible refine LeO.ite ?_ ?_)
   | (with_reducible refine LeO.bind ?_ (fun _ => ?_))
  ·intro y0 y1 y2 y3
   unfold spec_DancedFrom.l0
   repeat' first
   | (with_reducible exact ih0 _ _ _ _)
   | (with_reducible exact ih1 _ _ _ _)
   | (with_reducible exact spec_DanceOk.mono _ _)
   | (with_reducible exact spec_FractionOk.mono _ _ _)
   | (with_reducible exact spec_l2Move.mono _ _ _ _)
   | (with_reducible exact LeO.refl _)
   | (with_reducible exact LeO.none _)
   | (with_reducible refine LeO.ite ?_ ?_)
   | (with_reducible refine LeO.bind ?_ (fun _ => ?_))
theorem spec_DancedFrom.mono : ∀ a0 a1 a2 k, LeO (spec_DancedFrom.f k a0 a1 a2) (spec_DancedFrom.f (k + 1) a0 a1 a2) := by
 intro a0 a1 a2 k
 obtain ⟨ih0, ih1⟩ := spec_DancedFrom.mono_l k
 unfold spec_DancedFrom.f
 repeat' first
   | (with_reducible exact ih0 _ _ _ _)
   | (with_reducible exact ih1 _ _ _ _)
   | (with_reducible exact spec_DanceOk.mono _ _)
   | (with_reducible exact spec_FractionOk.mono _ _ _)
   | (with_reducible exact spec_l2Move.mono _ _ _ _)
   | (with_reducible exact LeO.refl _)
   | (with_reducible exact LeO.none _)
   | (with_reducible refine LeO.ite ?_ ?_)
   | (with_reducible refine LeO.bind ?_ (fun _ => ?_))
def spec_DancedFrom.T7 : Bool × List (List Nat × List Nat) := (true, [([], []), ([], []), ([], []), ([1, 2], [1, 2]), ([0, 3], [0, 3]), ([4], [4]), ([5], [5]), ([5], [5]), ([], []), ([8, 6, 4, 0, 1, 2, 3, 4, 5, 6, 8], [6, 8]), ([7, 9, 0, 1, 2, 3, 4, 5, 6, 7, 8, 9], [7])])
def spec_DancedFrom.B7 : List Nat := [0, 0, 0, 6, 15, 31, 63, 63, 0, 383, 1023]
theorem spec_DancedFrom.tab7 : rtab .any (opsOf Tryz.f106 7) = spec_DancedFrom.T7 := by kernel_rfl
theorem spec_DancedFrom.bits7 : waitsOk spec_DancedFrom.T7.2 spec_DancedFrom.B7 = true := by kernel_rfl
set_option maxHeartbeats 8000000 in
set_option maxRecDepth 100000 in
theorem spec_DancedFrom.calls (k : Nat) (a0_0 : Int) (a0_1 : Int) (a1 : ByteArray) (r1 : Int) (r2 : Int) (r3 : Bool) (w : World) (h : spec_DancedFrom.f k a0_0 a0_1 a1 = some (r1, r2, r3)) :
  Calls Tryz.prog 106 #[.agg #[.int .i64 a0_0, .int .i64 a0_1], .string a1] w fun e w' => e = .returned (.tuple #[.agg #[.int .i64 r1, .int .i64 r2], .bool r3]) ∧ Below w.heap.size w w' := by
 have hu31 := Tryz.underlying31
 have HB := Aside0.mk (Below.refl w.heap.size w)
 have H : ((spec_DanceOk.f k a1).bind fun t327 => (if t327 = true then ((spec_FractionOk.f k a0_0 a0_1).bind fun t328 => (spec_DancedFrom.j0 k a1 (!t328) a0_0 a0_1)) else (spec_DancedFrom.j0 k a1 true a0_0 a0_1))) = some (r1, r2, r3) := h
 clear h
 have HC3 := Aside0.mk H
 clear H
 go_enter Tryz.func106, Tryz.ntmps106
 go_upto_region 1 with (first | ((with_reducible refine gate_dst (N := 2) rfl ?_); refine sqBox (N := 2) (cs := #[.int .i64 a0_0, .int .i64 a0_1]) (t := 31) ?_; intro gb325 hg w4 BK325 hb; have GW325 := Aside0.mk ((sqG hg (sqB HB))); have GE325 := GW325; replace HB := sqS (sqB HB) hb; clear hb hg) | ((with_reducible refine gate_dst (N := 4) rfl ?_); refine sqBox (N := 4) (cs := #[.int .i64 0, .int .i64 0]) (t := 31) ?_; intro gb326 hg w5 BK326 hb; have GW326 := Aside0.mk ((sqG hg (sqB1 HB GE325))); have GE326 := GW326; replace HB := sqS (sqB1 HB GE325) hb; obtain ⟨NB325_326, NB326_325⟩ := sqM hg BK325; replace BK325 := sqT BK325 hb; clear hb hg))
 (try simp only [Act.put, List.setIfInBounds_toArray, List.set_cons_zero, List.set_cons_succ])
 go_cut [17] (fun v17 wc => ∃ (kq : Nat) (x17_2 : Bool), v17 = .bool x17_2 ∧ Aside0 (spec_DancedFrom.j0 kq a1 x17_2 a0_0 a0_1 = some (r1, r2, r3)) ∧ Aside0 (kq ≤ k) ∧ Aside0 (wc.heap[gb325]? = some (.cells #[.int .i64 a0_0, .int .i64 a0_1] 31 (0, 0))) ∧ Aside0 (wc.heap[gb326]? = some (.cells #[.int .i64 0, .int .i64 0] 31 (0, 0))) ∧ Aside0 (Below w.heap.size w wc))
 case first =>
  have H := HC3.out
  clear HC3
  obtain ⟨t327, A6, H⟩ := sqD H
  by_cases c7 : t327 = true
  ·subst c7
   have H1 : ((spec_FractionOk.f k a0_0 a0_1).bind fun t328 => (spec_DancedFrom.j0 k a1 (!t328) a0_0 a0_1)) = some (r1, r2, r3) := by rw [if_pos rfl] at H; exact H
   clear H
   have H := H1
   clear H1
   obtain ⟨t328, A8, H⟩ := sqD H
   have H' := Aside0.mk H
   clear H
   go_wp2_with (first | ((with_reducible refine gate_callee (f := 134) rfl ?_); refine goesL_ (some 11) rfl rfl Tryz.func134 (by kernel_rfl) rfl #[.string a1] rfl sqA ?_; (with_reducible refine (spec_DanceOk.calls k a1 true _ A6.out).mono ?_); rintro e w' ⟨rfl, ⟨nd, rfl⟩⟩; refine ⟨_, rfl, ?_⟩; have hnb9 := NB325_326.out; have hnc9 := NB326_325.out; obtain ⟨hcz10_0, hcz10_1, hfz10_0, hfz10_1⟩ := sqY2 BK325) | (go_at_call 77; (with_reducible refine (spec_FractionOk.calls k a0_0 a0_1 t328 _ A8.out).mono ?_); rintro e w11 ⟨rfl, hb⟩; replace BK325 := sqT BK325 hb; replace BK326 := sqT BK326 hb; replace HB := sqS (sqB2 HB GE325 GE326) hb; (try clear hb)))
   go_meet
   case rel => exact ⟨_, (!t328), Z2, H', ⟨Z3⟩, ⟨sqK BK325⟩, ⟨sqK BK326⟩, ⟨sqB2 HB GE325 GE326⟩⟩
  ·replace c7 := Bool.eq_false_iff.mpr c7
   subst c7
   have H1 : (spec_DancedFrom.j0 k a1 true a0_0 a0_1) = some (r1, r2, r3) := by rw [if_neg (show ¬ (false = true) by decide)] at H; exact H
   clear H
   have H := H1
   clear H1
   have H' := Aside0.mk H
   clear H
   go_wp2_with (first | ((with_reducible refine gate_callee (f := 134) rfl ?_); refine goesL_ (some 11) rfl rfl Tryz.func134 (by kernel_rfl) rfl #[.string a1] rfl sqA ?_; (with_reducible refine (spec_DanceOk.calls k a1 false _ A6.out).mono ?_); rintro e w' ⟨rfl, ⟨nd, rfl⟩⟩; refine ⟨_, rfl, ?_⟩))
   go_meet
   case rel => exact ⟨_, (true), Z2, H', ⟨Z3⟩, ⟨sqK BK325⟩, ⟨sqK BK326⟩, ⟨sqB2 HB GE325 GE326⟩⟩
 case rest =>
  clear HC3
  try clear c1; try clear p2; try clear c7; try clear c9; try clear c10; try clear hcz10_0; try clear hcz10_1; try clear hfz10_0; try clear hfz10_1
  obtain ⟨kq, x17_2, rfl, HA, HJ2, BK325, BK326, HB⟩ := hcut
  cases kq with
  | zero => exact absurd HA.out (by simp [spec_DancedFrom.j0])
  | succ kj2 =>
   have H := HA.out
   clear HA
   simp only [spec_DancedFrom.j0] at H
   by_cases c12 : x17_2 = true
   ·subst c12
    have H1 : (some (0, 0, false)) = some (r1, r2, r3) := by rw [if_pos rfl] at H; exact H
    clear H
    have H := H1
    clear H1
    simp only [Option.some.injEq, Prod.mk.injEq] at H
    obtain ⟨rfl, rfl, rfl⟩ := H
    have hnb13 := NB326_325.out
    have hnc13 := NB325_326.out
    obtain ⟨hcz14_0, hcz14_1, hfz14_0, hfz14_1⟩ := sqY2 BK326
    go_wp2
    refine bodyPost_ret (results_ct rfl _ _ gb326 31 #[.int .i64 0, .int .i64 0] (0, 0) _ rfl (Z10 BK326) Tryz.underlying31 rfl (by kernel_rfl)) rfl ?_
    exact ⟨Z4, sqB2 HB GE325 GE326⟩
   ·replace c12 := Bool.eq_false_iff.mpr c12
    subst c12
    have H1 : (spec_DancedFrom.l0 kj2 a1 0 a0_0 a0_1) = some (r1, r2, r3) := by rw [if_neg (show ¬ (false = true) by decide)] at H; exact H
    clear H
    have H := H1
    clear H1
    have H' := Aside0.mk H
    clear H
    have hnb15 := NB325_326.out
    have hnc15 := NB326_325.out
    obtain ⟨hcz16_0, hcz16_1, hfz16_0, hfz16_1⟩ := sqY2 BK325
    go_wp2_with (first | ((with_reducible refine gate_dst (N := 6) rfl ?_); refine sqBox (N := 6) (cs := #[.int .i64 0, .int .i64 0]) (t := 31) ?_; intro gb329 hg w17 BK329 hb; have GW329 := Aside0.mk ((sqG hg (sqB2 HB GE325 GE326))); have GE329 := GW329; replace HB := sqS (sqB2 HB GE325 GE326) hb; obtain ⟨NB325_329, NB329_325⟩ := sqM hg BK325; replace BK325 := sqT BK325 hb; obtain ⟨NB326_329, NB329_326⟩ := sqM hg BK326; replace BK326 := sqT BK326 hb; clear hb hg; have hnb18 := NB329_325.out; have hnc18 := NB325_329.out; have hnb19 := NB329_326.out; have hnc19 := NB326_329.out; obtain ⟨hcz20_0, hcz20_1, hfz20_0, hfz20_1⟩ := sqY2 BK329))
    go_loopg [7] kj2 (fun kq v7 w' => ∃ (x7_2 : Int) (x327000_2 : Int) (x327001_2 : Int) (x330000_2 : Int) (x330001_2 : Int), v7 = .int .i64 x7_2 ∧ Aside0 (spec_DancedFrom.l0 kq a1 x7_2 x330000_2 x330001_2 = some (r1, r2, r3)) ∧ Aside0 (kq ≤ kj2) ∧ Aside0 (w'.heap[gb325]? = some (.cells #[.int .i64 a0_0, .int .i64 a0_1] 31 (0, 0))) ∧ Aside0 (w'.heap[gb326]? = some (.cells #[.int .i64 x327000_2, .int .i64 x327001_2] 31 (0, 0))) ∧ Aside0 (w'.heap[gb329]? = some (.cells #[.int .i64 x330000_2, .int .i64 x330001_2] 31 (0, 0))) ∧ Aside0 (Below w.heap.size w w'))
    case atStart => exact ⟨(0), (0), (0), (a0_0), (a0_1), Z2, H', ⟨Nat.le_refl _⟩, ⟨Z5 NB325_329 BK325⟩, ⟨Z5 NB326_329 BK326⟩, ⟨Z6 BK329⟩, ⟨sqB3 HB GE325 GE326 GE329⟩⟩
    case round =>
     clear H'
     try clear c1; try clear p2; try clear c7; try clear c9; try clear c10; try clear c12; try clear c13; try clear c15; try clear c18; try clear c19; try clear hcz10_0; try clear hcz10_1; try clear hcz14_0; try clear hcz14_1; try clear hcz16_0; try clear hcz16_1; try clear hcz20_0; try clear hcz20_1; try clear hfz10_0; try clear hfz10_1; try clear hfz14_0; try clear hfz14_1; try clear hfz16_0; try clear hfz16_1; try clear hfz20_0; try clear hfz20_1; try clear p2
     obtain ⟨x7_2, x327000_2, x327001_2, x330000_2, x330001_2, rfl, HA, HK2, BK325, BK326, BK329, HB⟩ := hrel
     cases gk with
     | zero => exact absurd HA.out (by simp [spec_DancedFrom.l0])
     | succ k2 =>
      have H := HA.out
      clear HA
      simp only [spec_DancedFrom.l0] at H
      by_cases c21 : x7_2 < (a1.size : Int)
      ·rw [if_pos c21] at H
       have c21b0 : decide (x7_2 < (a1.size : Int)) = true := decide_eq_true c21
       clear c21
       by_cases c22 : 0 ≤ x7_2
       ·rw [if_pos c22] at H
        have c22b0 : decide (0 ≤ x7_2) = true := decide_eq_true c22
        clear c22
        replace H := Option.bind_eq_some_iff.mp H
        obtain ⟨⟨t330, t331, t332⟩, A240, H⟩ := H
        replace H : (if t332 = true then (spec_DancedFrom.l0 k2 a1 (wrap64 (x7_2 + 1)) t330 t331) else (some (0, 0, false))) = some (r1, r2, r3) := H
        have A24 := Aside0.mk A240
        clear A240
        by_cases c25 : t332 = true
        ·subst c25
         have H1 : (spec_DancedFrom.l0 k2 a1 (wrap64 (x7_2 + 1)) t330 t331) = some (r1, r2, r3) := by rw [if_pos rfl] at H; exact H
         clear H
         have H := H1
         clear H1
         have H' := Aside0.mk H
         clear H
         try go_wp2
         replace BK325 := Aside0.mk (blk_drew BK325.out)
         replace BK326 := Aside0.mk (blk_drew BK326.out)
         replace BK329 := Aside0.mk (blk_drew BK329.out)
         replace HB := Aside0.mk (below_drew1 HB.out)
         have p23 : 0 ≤ (x7_2 : Int) := of_decide_eq_true Z8
         have q23 : x7_2 < (a1.size : Int) := of_decide_eq_true Z8
         have hx23 := bt_at a1 x7_2
         replace p23 := eq_true p23
         replace q23 := eq_true q23
         refine start_ (n := 11) (S := fun w' => w'.cell? ⟨gb329, 0, none⟩ = some (.int .i64 x330000_2) ∧ w'.cell? ⟨gb329, 1, none⟩ = some (.int .i64 x330001_2)) (ds := []) #[false, false, false, false, false, false, false, false, false, false, false] (by kernel_rfl) rfl rfl ⟨(blk_cell BK329.out 0).trans rfl, (blk_cell BK329.out 1).trans rfl⟩ (fun hHeld => ?_); refine with_tabW spec_DancedFrom.tab7 spec_DancedFrom.bits7 (fun HT_ HW_ => ?_)
         generalize wr.drew = w26 at BK325 BK326 BK329 HB hHeld ⊢
         refine sqP (i := 1) (N := some 28) (h := ?_)
         refine sqP (i := 2) (N := some 29) (h := ?_)
         refine take_ (i := 0) (N := some 27) (v := ?_) (a' := ?_) #[true, true, true, false, false, false, false, false, false, false, false] rfl rfl (take_ofW HT_.out HW_.out (by kernel_rfl)) (fun _ _ _ h => h) (Or.inl ⟨by rfl, ?_⟩) hHeld ?_ ?_
         rotate_left
         ·rintro w' ⟨s0, s1⟩
          go_simp
          with_reducible rfl
         rotate_left
         ·simp only [Act.put, List.setIfInBounds_toArray, List.set_cons_zero, List.set_cons_succ, i64_w, i32_w]
          rfl
         refine take_ (i := 3) (N := some 30) (v := ?_) (a' := ?_) #[true, true, true, true, false, false, false, false, false, false, false] rfl rfl (take_ofW HT_.out HW_.out (by kernel_rfl)) (fun _ _ _ h => h) (Or.inl ⟨by rfl, ?_⟩) hHeld ?_ ?_
         rotate_left
         ·rintro w' ⟨s0, s1⟩
          go_simp
          with_reducible rfl
         rotate_left
         ·simp only [Act.put, List.setIfInBounds_toArray, List.set_cons_zero, List.set_cons_succ, i64_w, i32_w]
          rfl
         refine join_ (σ := Nat) 2 #[true, true, true, true, true, true, true, true, true, false, false] (fun s_ => [(31, .tuple #[.agg #[.int .i64 t330, .int .i64 t331], .bool true]), (8, .pointer (some ⟨s_, 0, none⟩)), (26, .tuple #[.agg #[.int .i64 t330, .int .i64 t331], .bool true]), (32, .agg #[.int .i64 t330, .int .i64 t331]), (33, .bool true)]) (fun s_ w' => (w'.cell? ⟨gb329, 0, none⟩ = some (.int .i64 x330000_2) ∧ w'.cell? ⟨gb329, 1, none⟩ = some (.int .i64 x330001_2)) ∧ (w'.heap[gb325]? = some (.cells #[.int .i64 a0_0, .int .i64 a0_1] 31 (0, 0))) ∧ (w'.heap[gb326]? = some (.cells #[.int .i64 x327000_2, .int .i64 x327001_2] 31 (0, 0))) ∧ (w'.heap[gb329]? = some (.cells #[.int .i64 x330000_2, .int .i64 x330001_2] 31 (0, 0))) ∧ (w'.heap[s_]? = some (.cells #[.int .i64 0, .int .i64 0] 31 (0, 0))) ∧ (w.heap.size ≤ s_) ∧ (w.heap.size ≤ s_) ∧ (gb325 ≠ s_) ∧ (s_ ≠ gb325) ∧ (gb326 ≠ s_) ∧ (s_ ≠ gb326) ∧ (gb329 ≠ s_) ∧ (s_ ≠ gb329) ∧ (Below w.heap.size w w')) ?_ ?_
         rotate_left
         ·intro hCont
          refine two_ (i := 4) (j := 8) (Ni := some 31) (Nj := some 8) #[true, true, true, true, true, false, false, false, false, false, false] #[true, true, true, true, false, false, false, false, true, false, false] rfl rfl rfl rfl (two_of HT_.out (by kernel_rfl)) (by decide) (by decide) (fun K hK => ?_) (fun K hK => ?_)
          ·skip
           refine goes_ Tryz.func135 (by kernel_rfl) rfl #[.agg #[.int .i64 x330000_2, .int .i64 x330001_2], .int .u8 (bt a1 x7_2)] (by rfl) rfl rfl sqA ?_
           with_reducible refine (spec_l2Move.calls k2 x330000_2 x330001_2 (bt a1 x7_2) t330 t331 true _ A24.out).mono ?_
           rintro e w27 ⟨rfl, hb⟩
           refine ⟨_, rfl, ?_⟩
           replace BK325 := sqT BK325 hb
           replace BK326 := sqT BK326 hb
           replace BK329 := sqT BK329 hb
           replace HB := sqS (sqB3 HB GE325 GE326 GE329) hb
           (try clear hb)
           (try clear hb2)
           (try clear hk)
           (try clear hi)
           refine hK.out _ _ ⟨(blk_cell BK329.out 0).trans rfl, (blk_cell BK329.out 1).trans rfl⟩ (fun hHeld => ?_)
           clear hK K
           refine sqN (some 31) ?_
           refine sqP (i := 5) (N := some 26) (h := ?_)
           refine sqP (i := 6) (N := some 32) (h := ?_)
           refine sqP (i := 7) (N := some 33) (h := ?_)
           refine one_ (i := 8) (N := some 8) #[true, true, true, true, true, true, true, true, true, false, false] rfl rfl (one_of HT_.out (by kernel_rfl)) (by decide) (fun K hK => ?_)
           refine box_step ?hg (N := 8) ?hd (cs := #[.int .i64 0, .int .i64 0]) (t := 31) ?hr ?_; (case hd => rfl); (case hg => rfl); (case hr => exact Z11)
           intro gb333 hg w28 hbox hb
           have BK333 := Aside0.mk (hbox)
           have GW333 := Aside0.mk ((sqG hg (sqB3 HB GE325 GE326 GE329)))
           have GE333 := Aside0.mk ((sqG hg (sqB3 HB GE325 GE326 GE329)))
           replace HB := sqS (sqB3 HB GE325 GE326 GE329) hb
           have NB325_333 := Aside0.mk ((Z12 BK325 : gb325 ≠ gb333))
           have NB333_325 := Aside0.mk ((Z13 BK325 : gb333 ≠ gb325))
           replace BK325 := sqT BK325 hb
           have NB326_333 := Aside0.mk ((Z12 BK326 : gb326 ≠ gb333))
           have NB333_326 := Aside0.mk ((Z13 BK326 : gb333 ≠ gb326))
           replace BK326 := sqT BK326 hb
           have NB329_333 := Aside0.mk ((Z12 BK329 : gb329 ≠ gb333))
           have NB333_329 := Aside0.mk ((Z13 BK329 : gb333 ≠ gb329))
           replace BK329 := sqT BK329 hb
           clear hb hbox hg
           refine hK.out _ _ ⟨(blk_cell BK329.out 0).trans rfl, (blk_cell BK329.out 1).trans rfl⟩ (fun hHeld => ?_)
           clear hK K
           refine sqN (some 8) ?_
           exact norm_ Z14 (hCont (gb333) _ ⟨hHeld, (sqK BK325), (sqK BK326), (sqK BK329), (sqK BK333), GW333.out, GE333.out, NB325_333.out, NB333_325.out, NB326_333.out, NB333_326.out, NB329_333.out, NB333_329.out, (sqB4 HB GE325 GE326 GE329 GE333)⟩)
          ·skip
           refine box_step ?hg (N := 8) ?hd (cs := #[.int .i64 0, .int .i64 0]) (t := 31) ?hr ?_; (case hd => rfl); (case hg => rfl); (case hr => exact Z11)
           intro gb333 hg w27 hbox hb
           have BK333 := Aside0.mk (hbox)
           have GW333 := Aside0.mk ((sqG hg (sqB3 HB GE325 GE326 GE329)))
           have GE333 := Aside0.mk ((sqG hg (sqB3 HB GE325 GE326 GE329)))
           replace HB := sqS (sqB3 HB GE325 GE326 GE329) hb
           have NB325_333 := Aside0.mk ((Z12 BK325 : gb325 ≠ gb333))
           have NB333_325 := Aside0.mk ((Z13 BK325 : gb333 ≠ gb325))
           replace BK325 := sqT BK325 hb
           have NB326_333 := Aside0.mk ((Z12 BK326 : gb326 ≠ gb333))
           have NB333_326 := Aside0.mk ((Z13 BK326 : gb333 ≠ gb326))
           replace BK326 := sqT BK326 hb
           have NB329_333 := Aside0.mk ((Z12 BK329 : gb329 ≠ gb333))
           have NB333_329 := Aside0.mk ((Z13 BK329 : gb333 ≠ gb329))
           replace BK329 := sqT BK329 hb
           clear hb hbox hg
           refine hK.out _ _ ⟨(blk_cell BK329.out 0).trans rfl, (blk_cell BK329.out 1).trans rfl⟩ (fun hHeld => ?_)
           clear hK K
           refine sqN (some 8) ?_
           refine one_ (i := 4) (N := some 31) #[true, true, true, true, true, false, false, false, true, false, false] rfl rfl (one_of HT_.out (by kernel_rfl)) (by decide) (fun K hK => ?_)
           refine goes_ Tryz.func135 (by kernel_rfl) rfl #[.agg #[.int .i64 x330000_2, .int .i64 x330001_2], .int .u8 (bt a1 x7_2)] (by rfl) rfl rfl sqA ?_
           with_reducible refine (spec_l2Move.calls k2 x330000_2 x330001_2 (bt a1 x7_2) t330 t331 true _ A24.out).mono ?_
           rintro e w28 ⟨rfl, hb⟩
           refine ⟨_, rfl, ?_⟩
           replace BK325 := sqT BK325 hb
           replace BK326 := sqT BK326 hb
           replace BK329 := sqT BK329 hb
           replace BK333 := sqT BK333 hb
           replace HB := sqS (sqB4 HB GE325 GE326 GE329 GE333) hb
           (try clear hb)
           (try clear hb2)
           (try clear hk)
           (try clear hi)
           refine hK.out _ _ ⟨(blk_cell BK329.out 0).trans rfl, (blk_cell BK329.out 1).trans rfl⟩ (fun hHeld => ?_)
           clear hK K
           refine sqN (some 31) ?_
           refine sqP (i := 5) (N := some 26) (h := ?_)
           refine sqP (i := 6) (N := some 32) (h := ?_)
           refine sqP (i := 7) (N := some 33) (h := ?_)
           exact norm_ Z14 (hCont (gb333) _ ⟨hHeld, (sqK BK325), (sqK BK326), (sqK BK329), (sqK BK333), GW333.out, GE333.out, NB325_333.out, NB333_325.out, NB326_333.out, NB333_326.out, NB329_333.out, NB333_329.out, (sqB4 HB GE325 GE326 GE329 GE333)⟩)
         rintro gb333 w29 ⟨hS_, h0_, h1_, h2_, h3_, h4_, h5_, h6_, h7_, h8_, h9_, h10_, h11_, h12_⟩
         have n0_ : Aside0 (w29.heap[gb325]? = some (.cells #[.int .i64 a0_0, .int .i64 a0_1] 31 (0, 0))) := ⟨h0_⟩
         have n1_ : Aside0 (w29.heap[gb326]? = some (.cells #[.int .i64 x327000_2, .int .i64 x327001_2] 31 (0, 0))) := ⟨h1_⟩
         have n2_ : Aside0 (w29.heap[gb329]? = some (.cells #[.int .i64 x330000_2, .int .i64 x330001_2] 31 (0, 0))) := ⟨h2_⟩
         have n3_ : Aside0 (w29.heap[gb333]? = some (.cells #[.int .i64 0, .int .i64 0] 31 (0, 0))) := ⟨h3_⟩
         have n4_ : Aside0 (w.heap.size ≤ gb333) := ⟨h4_⟩
         have n5_ : Aside0 (w.heap.size ≤ gb333) := ⟨h5_⟩
         have n6_ : Aside0 (gb325 ≠ gb333) := ⟨h6_⟩
         have n7_ : Aside0 (gb333 ≠ gb325) := ⟨h7_⟩
         have n8_ : Aside0 (gb326 ≠ gb333) := ⟨h8_⟩
         have n9_ : Aside0 (gb333 ≠ gb326) := ⟨h9_⟩
         have n10_ : Aside0 (gb329 ≠ gb333) := ⟨h10_⟩
         have n11_ : Aside0 (gb333 ≠ gb329) := ⟨h11_⟩
         have n12_ : Aside0 (Below w.heap.size w w29) := ⟨h12_⟩
         clear BK325
         clear BK326
         clear BK329
         clear HB
         clear h0_ h1_ h2_ h3_ h4_ h5_ h6_ h7_ h8_ h9_ h10_ h11_ h12_
         have BK325 := n0_
         have BK326 := n1_
         have BK329 := n2_
         have BK333 := n3_
         have GW333 := n4_
         have GE333 := n5_
         have NB325_333 := n6_
         have NB333_325 := n7_
         have NB326_333 := n8_
         have NB333_326 := n9_
         have NB329_333 := n10_
         have NB333_329 := n11_
         have HB := n12_
         clear n0_ n1_ n2_ n3_ n4_ n5_ n6_ n7_ n8_ n9_ n10_ n11_ n12_
         have hHeld : w29.cell? ⟨gb329, 0, none⟩ = some (.int .i64 x330000_2) ∧ w29.cell? ⟨gb329, 1, none⟩ = some (.int .i64 x330001_2) := hS_
         refine norm_ (a' := ?_) ?_ ?_
         rotate_left
         ·simp only [putAll, Act.put, List.setIfInBounds_toArray, List.set_cons_zero, List.set_cons_succ]
          rfl
         refine one_ (i := 9) (N := none) #[true, true, true, true, true, true, true, true, true, true, false] rfl rfl (one_of HT_.out (by kernel_rfl)) (by decide) (fun K hK => ?_)
         have hs30 : w29.cell? ⟨gb333, 0, none⟩ = some (.int .i64 0) := (blk_cell BK333.out 0).trans rfl
         have hfs30 := blk_frozen BK333.out 0
         have hns30_0 := NB325_333.out
         have hns30_1 := NB326_333.out
         have hns30_2 := NB329_333.out
         have hms30_0 := NB333_325.out
         have hms30_1 := NB333_326.out
         have hms30_2 := NB333_329.out
         have hs31 : w29.cell? ⟨gb333, 1, none⟩ = some (.int .i64 0) := (blk_cell BK333.out 1).trans rfl
         have hfs31 := blk_frozen BK333.out 1
         have hns31_0 := NB325_333.out
         have hns31_1 := NB326_333.out
         have hns31_2 := NB329_333.out
         have hms31_0 := NB333_325.out
         have hms31_1 := NB333_326.out
         have hms31_2 := NB333_329.out
         refine skip_ (w1 := ?_) (by rfl) rfl ?_ ?_
         rotate_left
         ·go_simp
          rfl
         refine hK.out _ _ ⟨((cell_far (p := ⟨gb333, _, none⟩) NB329_333.out _).trans (((cell_far (p := ⟨gb333, _, none⟩) NB329_333.out _).trans (hHeld.1)))), ((cell_far (p := ⟨gb333, _, none⟩) NB329_333.out _).trans (((cell_far (p := ⟨gb333, _, none⟩) NB329_333.out _).trans (hHeld.2))))⟩ (fun hHeld => ?_)
         clear hK K
         refine sqP (i := 10) (N := some 9) (h := ?_)
         refine done_ (done_of HT_.out (by kernel_rfl)) ?_
         have hnb32 := NB333_325.out
         have hnc32 := NB325_333.out
         have hnb33 := NB333_326.out
         have hnc33 := NB326_333.out
         have hnb34 := NB333_329.out
         have hnc34 := NB329_333.out
         obtain ⟨hcz35_0, hcz35_1, hfz35_0, hfz35_1⟩ := sqY2 BK333
         have hnb36 := NB329_325.out
         have hnc36 := NB325_329.out
         have hnb37 := NB329_326.out
         have hnc37 := NB326_329.out
         obtain ⟨hcz38_0, hcz38_1, hfz38_0, hfz38_1⟩ := sqY2 BK329
         try go_wp2
         go_roundg k2
         case measure => have := HJ2.out; have := HK2.out; omega
         case rel => exact ⟨(wrap64 (x7_2 + 1)), (x327000_2), (x327001_2), (t330), (t331), Z2, H', ⟨Z15 HK2⟩, ⟨by refine sqFar ?_ NB325_329; refine sqFar ?_ NB325_329; refine sqFar ?_ NB325_333; refine sqFar ?_ NB325_333; exact sqK BK325⟩, ⟨by refine sqFar ?_ NB326_329; refine sqFar ?_ NB326_329; refine sqFar ?_ NB326_333; refine sqFar ?_ NB326_333; exact sqK BK326⟩, ⟨by refine sqPut (cs := #[.int .i64 t330, .int .i64 x330001_2]) ?_ 1; refine sqPut (cs := #[.int .i64 x330000_2, .int .i64 x330001_2]) ?_ 0; refine sqFar ?_ NB329_333; refine sqFar ?_ NB329_333; exact sqK BK329⟩, ⟨sqB4 HB GE325 GE326 GE329 GE333⟩⟩
        ·replace c25 := Bool.eq_false_iff.mpr c25
         subst c25
         have H1 : (some (0, 0, false)) = some (r1, r2, r3) := by rw [if_neg (show ¬ (false = true) by decide)] at H; exact H
         clear H
         have H := H1
         clear H1
         simp only [Option.some.injEq, Prod.mk.injEq] at H
         obtain ⟨rfl, rfl, rfl⟩ := H
         try go_wp2
         replace BK325 := Aside0.mk (blk_drew BK325.out)
         replace BK326 := Aside0.mk (blk_drew BK326.out)
         replace BK329 := Aside0.mk (blk_drew BK329.out)
         replace HB := Aside0.mk (below_drew1 HB.out)
         have p23 : 0 ≤ (x7_2 : Int) := of_decide_eq_true Z8
         have q23 : x7_2 < (a1.size : Int) := of_decide_eq_true Z8
         have hx23 := bt_at a1 x7_2
         replace p23 := eq_true p23
         replace q23 := eq_true q23
         refine start_ (n := 11) (S := fun w' => w'.cell? ⟨gb329, 0, none⟩ = some (.int .i64 x330000_2) ∧ w'.cell? ⟨gb329, 1, none⟩ = some (.int .i64 x330001_2)) (ds := []) #[false, false, false, false, false, false, false, false, false, false, false] (by kernel_rfl) rfl rfl ⟨(blk_cell BK329.out 0).trans rfl, (blk_cell BK329.out 1).trans rfl⟩ (fun hHeld => ?_); refine with_tabW spec_DancedFrom.tab7 spec_DancedFrom.bits7 (fun HT_ HW_ => ?_)
         generalize wr.drew = w39 at BK325 BK326 BK329 HB hHeld ⊢
         refine sqP (i := 1) (N := some 28) (h := ?_)
         refine sqP (i := 2) (N := some 29) (h := ?_)
         refine take_ (i := 0) (N := some 27) (v := ?_) (a' := ?_) #[true, true, true, false, false, false, false, false, false, false, false] rfl rfl (take_ofW HT_.out HW_.out (by kernel_rfl)) (fun _ _ _ h => h) (Or.inl ⟨by rfl, ?_⟩) hHeld ?_ ?_
         rotate_left
         ·rintro w' ⟨s0, s1⟩
          go_simp
          with_reducible rfl
         rotate_left
         ·simp only [Act.put, List.setIfInBounds_toArray, List.set_cons_zero, List.set_cons_succ, i64_w, i32_w]
          rfl
         refine take_ (i := 3) (N := some 30) (v := ?_) (a' := ?_) #[true, true, true, true, false, false, false, false, false, false, false] rfl rfl (take_ofW HT_.out HW_.out (by kernel_rfl)) (fun _ _ _ h => h) (Or.inl ⟨by rfl, ?_⟩) hHeld ?_ ?_
         rotate_left
         ·rintro w' ⟨s0, s1⟩
          go_simp
          with_reducible rfl
         rotate_left
         ·simp only [Act.put, List.setIfInBounds_toArray, List.set_cons_zero, List.set_cons_succ, i64_w, i32_w]
          rfl
         refine join_ (σ := Nat) 2 #[true, true, true, true, true, true, true, true, true, false, false] (fun s_ => [(31, .tuple #[.agg #[.int .i64 t330, .int .i64 t331], .bool false]), (8, .pointer (some ⟨s_, 0, none⟩)), (26, .tuple #[.agg #[.int .i64 t330, .int .i64 t331], .bool false]), (32, .agg #[.int .i64 t330, .int .i64 t331]), (33, .bool false)]) (fun s_ w' => (w'.cell? ⟨gb329, 0, none⟩ = some (.int .i64 x330000_2) ∧ w'.cell? ⟨gb329, 1, none⟩ = some (.int .i64 x330001_2)) ∧ (w'.heap[gb325]? = some (.cells #[.int .i64 a0_0, .int .i64 a0_1] 31 (0, 0))) ∧ (w'.heap[gb326]? = some (.cells #[.int .i64 x327000_2, .int .i64 x327001_2] 31 (0, 0))) ∧ (w'.heap[gb329]? = some (.cells #[.int .i64 x330000_2, .int .i64 x330001_2] 31 (0, 0))) ∧ (w'.heap[s_]? = some (.cells #[.int .i64 0, .int .i64 0] 31 (0, 0))) ∧ (w.heap.size ≤ s_) ∧ (w.heap.size ≤ s_) ∧ (gb325 ≠ s_) ∧ (s_ ≠ gb325) ∧ (gb326 ≠ s_) ∧ (s_ ≠ gb326) ∧ (gb329 ≠ s_) ∧ (s_ ≠ gb329) ∧ (Below w.heap.size w w')) ?_ ?_
         rotate_left
         ·intro hCont
          refine two_ (i := 4) (j := 8) (Ni := some 31) (Nj := some 8) #[true, true, true, true, true, false, false, false, false, false, false] #[true, true, true, true, false, false, false, false, true, false, false] rfl rfl rfl rfl (two_of HT_.out (by kernel_rfl)) (by decide) (by decide) (fun K hK => ?_) (fun K hK => ?_)
          ·skip
           refine goes_ Tryz.func135 (by kernel_rfl) rfl #[.agg #[.int .i64 x330000_2, .int .i64 x330001_2], .int .u8 (bt a1 x7_2)] (by rfl) rfl rfl sqA ?_
           with_reducible refine (spec_l2Move.calls k2 x330000_2 x330001_2 (bt a1 x7_2) t330 t331 false _ A24.out).mono ?_
           rintro e w40 ⟨rfl, hb⟩
           refine ⟨_, rfl, ?_⟩
           replace BK325 := sqT BK325 hb
           replace BK326 := sqT BK326 hb
           replace BK329 := sqT BK329 hb
           replace HB := sqS (sqB3 HB GE325 GE326 GE329) hb
           (try clear hb)
           (try clear hb2)
           (try clear hk)
           (try clear hi)
           refine hK.out _ _ ⟨(blk_cell BK329.out 0).trans rfl, (blk_cell BK329.out 1).trans rfl⟩ (fun hHeld => ?_)
           clear hK K
           refine sqN (some 31) ?_
           refine sqP (i := 5) (N := some 26) (h := ?_)
           refine sqP (i := 6) (N := some 32) (h := ?_)
           refine sqP (i := 7) (N := some 33) (h := ?_)
           refine one_ (i := 8) (N := some 8) #[true, true, true, true, true, true, true, true, true, false, false] rfl rfl (one_of HT_.out (by kernel_rfl)) (by decide) (fun K hK => ?_)
           refine box_step ?hg (N := 8) ?hd (cs := #[.int .i64 0, .int .i64 0]) (t := 31) ?hr ?_; (case hd => rfl); (case hg => rfl); (case hr => exact Z11)
           intro gb333 hg w41 hbox hb
           have BK333 := Aside0.mk (hbox)
           have GW333 := Aside0.mk ((sqG hg (sqB3 HB GE325 GE326 GE329)))
           have GE333 := Aside0.mk ((sqG hg (sqB3 HB GE325 GE326 GE329)))
           replace HB := sqS (sqB3 HB GE325 GE326 GE329) hb
           have NB325_333 := Aside0.mk ((Z12 BK325 : gb325 ≠ gb333))
           have NB333_325 := Aside0.mk ((Z13 BK325 : gb333 ≠ gb325))
           replace BK325 := sqT BK325 hb
           have NB326_333 := Aside0.mk ((Z12 BK326 : gb326 ≠ gb333))
           have NB333_326 := Aside0.mk ((Z13 BK326 : gb333 ≠ gb326))
           replace BK326 := sqT BK326 hb
           have NB329_333 := Aside0.mk ((Z12 BK329 : gb329 ≠ gb333))
           have NB333_329 := Aside0.mk ((Z13 BK329 : gb333 ≠ gb329))
           replace BK329 := sqT BK329 hb
           clear hb hbox hg
           refine hK.out _ _ ⟨(blk_cell BK329.out 0).trans rfl, (blk_cell BK329.out 1).trans rfl⟩ (fun hHeld => ?_)
           clear hK K
           refine sqN (some 8) ?_
           exact norm_ Z14 (hCont (gb333) _ ⟨hHeld, (sqK BK325), (sqK BK326), (sqK BK329), (sqK BK333), GW333.out, GE333.out, NB325_333.out, NB333_325.out, NB326_333.out, NB333_326.out, NB329_333.out, NB333_329.out, (sqB4 HB GE325 GE326 GE329 GE333)⟩)
          ·skip
           refine box_step ?hg (N := 8) ?hd (cs := #[.int .i64 0, .int .i64 0]) (t := 31) ?hr ?_; (case hd => rfl); (case hg => rfl); (case hr => exact Z11)
           intro gb333 hg w40 hbox hb
           have BK333 := Aside0.mk (hbox)
           have GW333 := Aside0.mk ((sqG hg (sqB3 HB GE325 GE326 GE329)))
           have GE333 := Aside0.mk ((sqG hg (sqB3 HB GE325 GE326 GE329)))
           replace HB := sqS (sqB3 HB GE325 GE326 GE329) hb
           have NB325_333 := Aside0.mk ((Z12 BK325 : gb325 ≠ gb333))
           have NB333_325 := Aside0.mk ((Z13 BK325 : gb333 ≠ gb325))
           replace BK325 := sqT BK325 hb
           have NB326_333 := Aside0.mk ((Z12 BK326 : gb326 ≠ gb333))
           have NB333_326 := Aside0.mk ((Z13 BK326 : gb333 ≠ gb326))
           replace BK326 := sqT BK326 hb
           have NB329_333 := Aside0.mk ((Z12 BK329 : gb329 ≠ gb333))
           have NB333_329 := Aside0.mk ((Z13 BK329 : gb333 ≠ gb329))
           replace BK329 := sqT BK329 hb
           clear hb hbox hg
           refine hK.out _ _ ⟨(blk_cell BK329.out 0).trans rfl, (blk_cell BK329.out 1).trans rfl⟩ (fun hHeld => ?_)
           clear hK K
           refine sqN (some 8) ?_
           refine one_ (i := 4) (N := some 31) #[true, true, true, true, true, false, false, false, true, false, false] rfl rfl (one_of HT_.out (by kernel_rfl)) (by decide) (fun K hK => ?_)
           refine goes_ Tryz.func135 (by kernel_rfl) rfl #[.agg #[.int .i64 x330000_2, .int .i64 x330001_2], .int .u8 (bt a1 x7_2)] (by rfl) rfl rfl sqA ?_
           with_reducible refine (spec_l2Move.calls k2 x330000_2 x330001_2 (bt a1 x7_2) t330 t331 false _ A24.out).mono ?_
           rintro e w41 ⟨rfl, hb⟩
           refine ⟨_, rfl, ?_⟩
           replace BK325 := sqT BK325 hb
           replace BK326 := sqT BK326 hb
           replace BK329 := sqT BK329 hb
           replace BK333 := sqT BK333 hb
           replace HB := sqS (sqB4 HB GE325 GE326 GE329 GE333) hb
           (try clear hb)
           (try clear hb2)
           (try clear hk)
           (try clear hi)
           refine hK.out _ _ ⟨(blk_cell BK329.out 0).trans rfl, (blk_cell BK329.out 1).trans rfl⟩ (fun hHeld => ?_)
           clear hK K
           refine sqN (some 31) ?_
           refine sqP (i := 5) (N := some 26) (h := ?_)
           refine sqP (i := 6) (N := some 32) (h := ?_)
           refine sqP (i := 7) (N := some 33) (h := ?_)
           exact norm_ Z14 (hCont (gb333) _ ⟨hHeld, (sqK BK325), (sqK BK326), (sqK BK329), (sqK BK333), GW333.out, GE333.out, NB325_333.out, NB333_325.out, NB326_333.out, NB333_326.out, NB329_333.out, NB333_329.out, (sqB4 HB GE325 GE326 GE329 GE333)⟩)
         rintro gb333 w42 ⟨hS_, h0_, h1_, h2_, h3_, h4_, h5_, h6_, h7_, h8_, h9_, h10_, h11_, h12_⟩
         have n0_ : Aside0 (w42.heap[gb325]? = some (.cells #[.int .i64 a0_0, .int .i64 a0_1] 31 (0, 0))) := ⟨h0_⟩
         have n1_ : Aside0 (w42.heap[gb326]? = some (.cells #[.int .i64 x327000_2, .int .i64 x327001_2] 31 (0, 0))) := ⟨h1_⟩
         have n2_ : Aside0 (w42.heap[gb329]? = some (.cells #[.int .i64 x330000_2, .int .i64 x330001_2] 31 (0, 0))) := ⟨h2_⟩
         have n3_ : Aside0 (w42.heap[gb333]? = some (.cells #[.int .i64 0, .int .i64 0] 31 (0, 0))) := ⟨h3_⟩
         have n4_ : Aside0 (w.heap.size ≤ gb333) := ⟨h4_⟩
         have n5_ : Aside0 (w.heap.size ≤ gb333) := ⟨h5_⟩
         have n6_ : Aside0 (gb325 ≠ gb333) := ⟨h6_⟩
         have n7_ : Aside0 (gb333 ≠ gb325) := ⟨h7_⟩
         have n8_ : Aside0 (gb326 ≠ gb333) := ⟨h8_⟩
         have n9_ : Aside0 (gb333 ≠ gb326) := ⟨h9_⟩
         have n10_ : Aside0 (gb329 ≠ gb333) := ⟨h10_⟩
         have n11_ : Aside0 (gb333 ≠ gb329) := ⟨h11_⟩
         have n12_ : Aside0 (Below w.heap.size w w42) := ⟨h12_⟩
         clear BK325
         clear BK326
         clear BK329
         clear HB
         clear h0_ h1_ h2_ h3_ h4_ h5_ h6_ h7_ h8_ h9_ h10_ h11_ h12_
         have BK325 := n0_
         have BK326 := n1_
         have BK329 := n2_
         have BK333 := n3_
         have GW333 := n4_
         have GE333 := n5_
         have NB325_333 := n6_
         have NB333_325 := n7_
         have NB326_333 := n8_
         have NB333_326 := n9_
         have NB329_333 := n10_
         have NB333_329 := n11_
         have HB := n12_
         clear n0_ n1_ n2_ n3_ n4_ n5_ n6_ n7_ n8_ n9_ n10_ n11_ n12_
         have hHeld : w42.cell? ⟨gb329, 0, none⟩ = some (.int .i64 x330000_2) ∧ w42.cell? ⟨gb329, 1, none⟩ = some (.int .i64 x330001_2) := hS_
         refine norm_ (a' := ?_) ?_ ?_
         rotate_left
         ·simp only [putAll, Act.put, List.setIfInBounds_toArray, List.set_cons_zero, List.set_cons_succ]
          rfl
         refine one_ (i := 9) (N := none) #[true, true, true, true, true, true, true, true, true, true, false] rfl rfl (one_of HT_.out (by kernel_rfl)) (by decide) (fun K hK => ?_)
         have hs43 : w42.cell? ⟨gb333, 0, none⟩ = some (.int .i64 0) := (blk_cell BK333.out 0).trans rfl
         have hfs43 := blk_frozen BK333.out 0
         have hns43_0 := NB325_333.out
         have hns43_1 := NB326_333.out
         have hns43_2 := NB329_333.out
         have hms43_0 := NB333_325.out
         have hms43_1 := NB333_326.out
         have hms43_2 := NB333_329.out
         have hs44 : w42.cell? ⟨gb333, 1, none⟩ = some (.int .i64 0) := (blk_cell BK333.out 1).trans rfl
         have hfs44 := blk_frozen BK333.out 1
         have hns44_0 := NB325_333.out
         have hns44_1 := NB326_333.out
         have hns44_2 := NB329_333.out
         have hms44_0 := NB333_325.out
         have hms44_1 := NB333_326.out
         have hms44_2 := NB333_329.out
         refine skip_ (w1 := ?_) (by rfl) rfl ?_ ?_
         rotate_left
         ·go_simp
          rfl
         refine hK.out _ _ ⟨((cell_far (p := ⟨gb333, _, none⟩) NB329_333.out _).trans (((cell_far (p := ⟨gb333, _, none⟩) NB329_333.out _).trans (hHeld.1)))), ((cell_far (p := ⟨gb333, _, none⟩) NB329_333.out _).trans (((cell_far (p := ⟨gb333, _, none⟩) NB329_333.out _).trans (hHeld.2))))⟩ (fun hHeld => ?_)
         clear hK K
         refine sqP (i := 10) (N := some 9) (h := ?_)
         refine done_ (done_of HT_.out (by kernel_rfl)) ?_
         have hnb45 := NB326_325.out
         have hnc45 := NB325_326.out
         have hnb46 := NB326_329.out
         have hnc46 := NB329_326.out
         have hnb47 := NB326_333.out
         have hnc47 := NB333_326.out
         obtain ⟨hcz48_0, hcz48_1, hfz48_0, hfz48_1⟩ := sqY2 BK326
         try go_wp2
         refine bodyPost_ret (results_ct rfl _ _ gb326 31 #[.int .i64 0, .int .i64 0] (0, 0) _ rfl (by refine sqPut (cs := #[.int .i64 0, .int .i64 x327001_2]) ?_ 1; refine sqPut (cs := #[.int .i64 x327000_2, .int .i64 x327001_2]) ?_ 0; refine sqFar ?_ NB326_333; refine sqFar ?_ NB326_333; exact sqK BK326) Tryz.underlying31 rfl (by kernel_rfl)) rfl ?_
         exact ⟨Z4, sqB4 HB GE325 GE326 GE329 GE333⟩
       ·rw [if_neg c22] at H
        exact absurd H (by simp)
      ·rw [if_neg c21] at H
       have c21b0 : decide (x7_2 < (a1.size : Int)) = false := decide_eq_false c21
       clear c21
       simp only [Option.some.injEq, Prod.mk.injEq] at H
       obtain ⟨rfl, rfl, rfl⟩ := H
       have hnb49 := NB329_325.out
       have hnc49 := NB325_329.out
       have hnb50 := NB329_326.out
       have hnc50 := NB326_329.out
       obtain ⟨hcz51_0, hcz51_1, hfz51_0, hfz51_1⟩ := sqY2 BK329
       have hnb52 := NB326_325.out
       have hnc52 := NB325_326.out
       obtain ⟨hcz53_0, hcz53_1, hfz53_0, hfz53_1⟩ := sqY2 BK326
       go_wp2
       refine bodyPost_ret (results_ct rfl _ _ gb326 31 #[.int .i64 x330000_2, .int .i64 x330001_2] (0, 0) _ rfl (by refine sqPut (cs := #[.int .i64 x330000_2, .int .i64 x327001_2]) ?_ 1; refine sqPut (cs := #[.int .i64 x327000_2, .int .i64 x327001_2]) ?_ 0; exact sqK BK326) Tryz.underlying31 rfl (by kernel_rfl)) rfl ?_
       exact ⟨Z4, sqB3 HB GE325 GE326 GE329⟩

end Go.Proofs.YtofmlbgfcohhoaaGreatDoor.PFnExactDeskRun
