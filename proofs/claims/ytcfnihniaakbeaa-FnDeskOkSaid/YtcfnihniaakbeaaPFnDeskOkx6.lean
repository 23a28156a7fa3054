/- Lean functions of the Go functions that the law FnDeskOk reaches, each with its contract: made by a program of this session. -/
import Derived.Test.YtcfnihniaakbeaaPFnDeskOkx0
import Derived.Test.YtcfnihniaakbeaaPFnDeskOkx3
import Derived.Test.YtcfnihniaakbeaaPFnDeskOkx5
namespace Go.Proofs.Ytcfnihniaakbeaa.PFnDeskOk
open Go.RowKit Go.Proofs.YtcfnihniaakbeaaW.PrintWords Go.Proofs.YtcfnihniaakbeaaW.PrintLast Go.Proofs.YtcfnihniaakbeaaW.PrintMore
attribute [local go_sem] max2_int min2_int max_two min_two max_three min_three max_four min_four   -- for this text's walks alone
set_option linter.unusedVariables false
set_option linter.unusedSimpArgs false

/-! ### spec_DancedFrom: function 33 -/
mutual
def spec_DancedFrom.j0 : Nat → ByteArray → Bool → Int → Int → Option (Int × Int × Bool)
 | 0, _, _, _, _ => none
 | k + 1, x1, x17, x179000, x179001 => if x17 = true then (some (0, 0, false)) else (spec_DancedFrom.l0 k x1 0 x179000 x179001)
def spec_DancedFrom.l0 : Nat → ByteArray → Int → Int → Int → Option (Int × Int × Bool)
 | 0, _, _, _, _ => none
 | k + 1, x1, x7, x183000, x183001 => if x7 < (x1.size : Int) then (if 0 ≤ x7 then ((spec_l2Move.f k x183000 x183001 (bt x1 x7)).bind fun bt183 => (if bt183.2.2 = true then (spec_DancedFrom.l0 k x1 (wrap64 (x7 + 1)) bt183.1 bt183.2.1) else (some (0, 0, false)))) else (none)) else (some (x183000, x183001, true))
end
def spec_DancedFrom.f (k : Nat) (a0_0 : Int) (a0_1 : Int) (a1 : ByteArray) : Option (Int × Int × Bool) := (spec_DanceOk.f k a1).bind fun t180 => (if t180 = true then ((spec_FractionOk.f k a0_0 a0_1).bind fun t181 => (spec_DancedFrom.j0 k a1 (!t181) a0_0 a0_1)) else (spec_DancedFrom.j0 k a1 true a0_0 a0_1))
theorem spec_DancedFrom.mono_l : ∀ k, (∀ y0 y1 y2 y3, LeO (spec_DancedFrom.j0 k y0 y1 y2 y3) (spec_DancedFrom.j0 (k + 1) y0 y1 y2 y3)) ∧ (∀ y0 y1 y2 y3, LeO (spec_DancedFrom.l0 k y0 y1 y2 y3) (spec_DancedFrom.l0 (k + 1) y0 y1 y2 y3))
 | 0 => ⟨fun _ _ _ _ r h => by simp [spec_DancedFrom.j0] at h, fun _ _ _ _ r h => by simp [spec_DancedFrom.l0] at h⟩
 | k + 1 => by
  obtain ⟨ih0, ih1⟩ := spec_DancedFrom.mono_l k
  refine ⟨?_, ?_⟩
  ·intro y0 y1 y2 y3
   unfold spec_DancedFrom.j0
   repeat' first
   | (with_reducible exact ih0 _ _ _ _)
   | (with_reducible exact ih1 _ _ _ _)
   | (with_reducible exact spec_DanceOk.mono _ _)
   | (with_reducible exact spec_FractionOk.mono _ _ _)
   | (with_reducible exact spec_l2Move.mono _ _ _ _)
   | (with_reducible exact LeO.refl _)
   | (with_reducible exact LeO.none _)
   | (with_reducible refine LeO.ite ?_ ?_)
   | (with_reducible refine LeO.bind ?_ (fun _ => ?_))
  ·intro y0 y1 y2 y3
   unfold spec_DancedFrom.l0
   repeat' first
   | (with_reducible exact ih0 _ _ _ _)
   | (with_reducible exact ih1 _ _ _ _)
   | (with_reducible exact spec_DanceOk.mono _ _)
   | (with_reducible exact spec_FractionOk.mono _ _ _)
   | (with_reducible exact spec_l2Move.mono _ _ _ _)
   | (with_reducible exact LeO.refl _)
   | (with_reducible exact LeO.none _)
   | (with_reducible refine LeO.ite ?_ ?_)
   | (with_reducible refine LeO.bind ?_ (fun _ => ?_))
theorem spec_DancedFrom.mono : ∀ a0 a1 a2 k, LeO (spec_DancedFrom.f k a0 a1 a2) (spec_DancedFrom.f (k + 1) a0 a1 a2) := by
 intro a0 a1 a2 k
 obtain ⟨ih0, ih1⟩ := spec_DancedFrom.mono_l k
 unfold spec_DancedFrom.f
 repeat' first
   | (with_reducible exact ih0 _ _ _ _)
   | (with_reducible exact ih1 _ _ _ _)
   | (with_reducible exact spec_DanceOk.mono _ _)
   | (with_reducible exact spec_FractionOk.mono _ _ _)
   | (with_reducible exact spec_l2Move.mono _ _ _ _)
   | (with_reducible exact LeO.refl _)
   | (with_reducible exact LeO.none _)
   | (with_reducible refine LeO.ite ?_ ?_)
   | (with_reducible refine LeO.bind ?_ (fun _ => ?_))
def spec_DancedFrom.T7 : Bool × List (List Nat × List Nat) := (true, [([], []), ([], []), ([], []), ([1, 2], [1, 2]), ([0, 3], [0, 3]), ([4], [4]), ([5], [5]), ([5], [5]), ([], []), ([8, 6, 4, 0, 1, 2, 3, 4, 5, 6, 8], [6, 8]), ([7, 9, 0, 1, 2, 3, 4, 5, 6, 7, 8, 9], [7])])
def spec_DancedFrom.B7 : List Nat := [0, 0, 0, 6, 15, 31, 63, 63, 0, 383, 1023]
theorem spec_DancedFrom.tab7 : rtab .any (opsOf Try.f33 7) = spec_DancedFrom.T7 := by kernel_rfl
theorem spec_DancedFrom.bits7 : waitsOk spec_DancedFrom.T7.2 spec_DancedFrom.B7 = true := by kernel_rfl
set_option maxHeartbeats 8000000 in
set_option maxRecDepth 100000 in
theorem spec_DancedFrom.calls (k : Nat) (a0_0 : Int) (a0_1 : Int) (a1 : ByteArray) (r1 : Int) (r2 : Int) (r3 : Bool) (w : World) (h : spec_DancedFrom.f k a0_0 a0_1 a1 = some (r1, r2, r3)) :
  Calls Try.prog 33 #[.agg #[.int .i64 a0_0, .int .i64 a0_1], .string a1] w fun e w' => e = .returned (.tuple #[.agg #[.int .i64 r1, .int .i64 r2], .bool r3]) ∧ Below w.heap.size w w' := by
 have hu24 := Try.underlying24
 have HB := Aside0.mk (Below.refl w.heap.size w)
 have H : ((spec_DanceOk.f k a1).bind fun t180 => (if t180 = true then ((spec_FractionOk.f k a0_0 a0_1).bind fun t181 => (spec_DancedFrom.j0 k a1 (!t181) a0_0 a0_1)) else (spec_DancedFrom.j0 k a1 true a0_0 a0_1))) = some (r1, r2, r3) := h
 clear h
 have HC3 := Aside0.mk H
 clear H
 go_enter Try.func33, Try.ntmps33
 go_upto_region 1 with (first | ((with_reducible refine gate_dst (N := 2) rfl ?_); refine sqBox (N := 2) (cs := #[.int .i64 a0_0, .int .i64 a0_1]) (t := 24) ?_; intro gb178 hg w4 BK178 hb; have GW178 := Aside0.mk ((sqG hg (sqB HB))); have GE178 := GW178; replace HB := sqS (sqB HB) hb; clear hb hg) | ((with_reducible refine gate_dst (N := 4) rfl ?_); refine sqBox (N := 4) (cs := #[.int .i64 0, .int .i64 0]) (t := 24) ?_; intro gb179 hg w5 BK179 hb; have GW179 := Aside0.mk ((sqG hg (sqB1 HB GE178))); have GE179 := GW179; replace HB := sqS (sqB1 HB GE178) hb; obtain ⟨NB178_179, NB179_178⟩ := sqM hg BK178; replace BK178 := sqT BK178 hb; clear hb hg))
 (try simp only [Act.put, List.setIfInBounds_toArray, List.set_cons_zero, List.set_cons_succ])
 go_cut [17] (fun v17 wc => ∃ (kq : Nat) (x17_2 : Bool), v17 = .bool x17_2 ∧ Aside0 (spec_DancedFrom.j0 kq a1 x17_2 a0_0 a0_1 = some (r1, r2, r3)) ∧ Aside0 (kq ≤ k) ∧ Aside0 (wc.heap[gb178]? = some (.cells #[.int .i64 a0_0, .int .i64 a0_1] 24 (0, 0))) ∧ Aside0 (wc.heap[gb179]? = some (.cells #[.int .i64 0, .int .i64 0] 24 (0, 0))) ∧ Aside0 (Below w.heap.size w wc))
 case first =>
  have H := HC3.out
  clear HC3
  obtain ⟨t180, A6, H⟩ := sqD H
  by_cases c7 : t180 = true
  ·subst c7
   have H1 : ((spec_FractionOk.f k a0_0 a0_1).bind fun t181 => (spec_DancedFrom.j0 k a1 (!t181) a0_0 a0_1)) = some (r1, r2, r3) := by rw [if_pos rfl] at H; exact H
   clear H
   have H := H1
   clear H1
   obtain ⟨t181, A8, H⟩ := sqD H
   have H' := Aside0.mk H
   clear H
   go_wp2_with (first | ((with_reducible refine gate_callee (f := 38) rfl ?_); refine goesL_ (some 11) rfl rfl Try.func38 (by kernel_rfl) rfl #[.string a1] rfl sqA ?_; (with_reducible refine (spec_DanceOk.calls k a1 true _ A6.out).mono ?_); rintro e w' ⟨rfl, ⟨nd, rfl⟩⟩; refine ⟨_, rfl, ?_⟩; have hnb9 := NB178_179.out; have hnc9 := NB179_178.out; obtain ⟨hcz10_0, hcz10_1, hfz10_0, hfz10_1⟩ := sqY2 BK178) | (go_at_call 11; (with_reducible refine (spec_FractionOk.calls k a0_0 a0_1 t181 _ A8.out).mono ?_); rintro e w11 ⟨rfl, hb⟩; replace BK178 := sqT BK178 hb; replace BK179 := sqT BK179 hb; replace HB := sqS (sqB2 HB GE178 GE179) hb; (try clear hb)))
   go_meet
   case rel => exact ⟨_, (!t181), Z2, H', ⟨Z3⟩, ⟨sqK BK178⟩, ⟨sqK BK179⟩, ⟨sqB2 HB GE178 GE179⟩⟩
  ·replace c7 := Bool.eq_false_iff.mpr c7
   subst c7
   have H1 : (spec_DancedFrom.j0 k a1 true a0_0 a0_1) = some (r1, r2, r3) := by rw [if_neg (show ¬ (false = true) by decide)] at H; exact H
   clear H
   have H := H1
   clear H1
   have H' := Aside0.mk H
   clear H
   go_wp2_with (first | ((with_reducible refine gate_callee (f := 38) rfl ?_); refine goesL_ (some 11) rfl rfl Try.func38 (by kernel_rfl) rfl #[.string a1] rfl sqA ?_; (with_reducible refine (spec_DanceOk.calls k a1 false _ A6.out).mono ?_); rintro e w' ⟨rfl, ⟨nd, rfl⟩⟩; refine ⟨_, rfl, ?_⟩))
   go_meet
   case rel => exact ⟨_, (true), Z2, H', ⟨Z3⟩, ⟨sqK BK178⟩, ⟨sqK BK179⟩, ⟨sqB2 HB GE178 GE179⟩⟩
 case rest =>
  clear HC3
  try clear p2; try clear c3; try clear c7; try clear c9; try clear hcz10_0; try clear hcz10_1; try clear hfz10_0; try clear hfz10_1
  obtain ⟨kq, x17_2, rfl, HA, HJ2, BK178, BK179, HB⟩ := hcut
  cases kq with
  | zero => exact absurd HA.out (by simp [spec_DancedFrom.j0])
  | succ kj2 =>
   have H := HA.out
   clear HA
   simp only [spec_DancedFrom.j0] at H
   by_cases c12 : x17_2 = true
   ·subst c12
    have H1 : (some (0, 0, false)) = some (r1, r2, r3) := by rw [if_pos rfl] at H; exact H
    clear H
    have H := H1
    clear H1
    simp only [Option.some.injEq, Prod.mk.injEq] at H
    obtain ⟨rfl, rfl, rfl⟩ := H
    have hnb13 := NB179_178.out
    have hnc13 := NB178_179.out
    obtain ⟨hcz14_0, hcz14_1, hfz14_0, hfz14_1⟩ := sqY2 BK179
    go_wp2
    refine bodyPost_ret (results_ct rfl _ _ gb179 24 #[.int .i64 0, .int .i64 0] (0, 0) _ rfl (Z26 BK179) Try.underlying24 rfl (by kernel_rfl)) rfl ?_
    exact ⟨Z14, sqB2 HB GE178 GE179⟩
   ·replace c12 := Bool.eq_false_iff.mpr c12
    subst c12
    have H1 : (spec_DancedFrom.l0 kj2 a1 0 a0_0 a0_1) = some (r1, r2, r3) := by rw [if_neg (show ¬ (false = true) by decide)] at H; exact H
    clear H
    have H := H1
    clear H1
    have H' := Aside0.mk H
    clear H
    have hnb15 := NB178_179.out
    have hnc15 := NB179_178.out
    obtain ⟨hcz16_0, hcz16_1, hfz16_0, hfz16_1⟩ := sqY2 BK178
    go_wp2_with (first | ((with_reducible refine gate_dst (N := 6) rfl ?_); refine sqBox (N := 6) (cs := #[.int .i64 0, .int .i64 0]) (t := 24) ?_; intro gb182 hg w17 BK182 hb; have GW182 := Aside0.mk ((sqG hg (sqB2 HB GE178 GE179))); have GE182 := GW182; replace HB := sqS (sqB2 HB GE178 GE179) hb; obtain ⟨NB178_182, NB182_178⟩ := sqM hg BK178; replace BK178 := sqT BK178 hb; obtain ⟨NB179_182, NB182_179⟩ := sqM hg BK179; replace BK179 := sqT BK179 hb; clear hb hg; have hnb18 := NB182_178.out; have hnc18 := NB178_182.out; have hnb19 := NB182_179.out; have hnc19 := NB179_182.out; obtain ⟨hcz20_0, hcz20_1, hfz20_0, hfz20_1⟩ := sqY2 BK182))
    go_loopg [7] kj2 (fun kq v7 w' => ∃ (x7_2 : Int) (x180000_2 : Int) (x180001_2 : Int) (x183000_2 : Int) (x183001_2 : Int), v7 = .int .i64 x7_2 ∧ Aside0 (spec_DancedFrom.l0 kq a1 x7_2 x183000_2 x183001_2 = some (r1, r2, r3)) ∧ Aside0 (kq ≤ kj2) ∧ Aside0 (w'.heap[gb178]? = some (.cells #[.int .i64 a0_0, .int .i64 a0_1] 24 (0, 0))) ∧ Aside0 (w'.heap[gb179]? = some (.cells #[.int .i64 x180000_2, .int .i64 x180001_2] 24 (0, 0))) ∧ Aside0 (w'.heap[gb182]? = some (.cells #[.int .i64 x183000_2, .int .i64 x183001_2] 24 (0, 0))) ∧ Aside0 (Below w.heap.size w w'))
    case atStart => exact ⟨(0), (0), (0), (a0_0), (a0_1), Z2, H', ⟨Nat.le_refl _⟩, ⟨Z9 NB178_182 BK178⟩, ⟨Z9 NB179_182 BK179⟩, ⟨Z54 BK182⟩, ⟨sqB3 HB GE178 GE179 GE182⟩⟩
    case round =>
     clear H'
     try clear c1; try clear p2; try clear c3; try clear c7; try clear c9; try clear c12; try clear c13; try clear c15; try clear c18; try clear c19; try clear hcz10_0; try clear hcz10_1; try clear hcz14_0; try clear hcz14_1; try clear hcz16_0; try clear hcz16_1; try clear hcz20_0; try clear hcz20_1; try clear hfz10_0; try clear hfz10_1; try clear hfz14_0; try clear hfz14_1; try clear hfz16_0; try clear hfz16_1; try clear hfz20_0; try clear hfz20_1; try clear p2
     obtain ⟨x7_2, x180000_2, x180001_2, x183000_2, x183001_2, rfl, HA, HK2, BK178, BK179, BK182, HB⟩ := hrel
     cases gk with
     | zero => exact absurd HA.out (by simp [spec_DancedFrom.l0])
     | succ k2 =>
      have H := HA.out
      clear HA
      simp only [spec_DancedFrom.l0] at H
      by_cases c21 : x7_2 < (a1.size : Int)
      ·rw [if_pos c21] at H
       have c21b0 : decide (x7_2 < (a1.size : Int)) = true := decide_eq_true c21
       clear c21
       by_cases c22 : 0 ≤ x7_2
       ·rw [if_pos c22] at H
        have c22b0 : decide (0 ≤ x7_2) = true := decide_eq_true c22
        clear c22
        replace H := Option.bind_eq_some_iff.mp H
        obtain ⟨⟨t183, t184, t185⟩, A240, H⟩ := H
        replace H : (if t185 = true then (spec_DancedFrom.l0 k2 a1 (wrap64 (x7_2 + 1)) t183 t184) else (some (0, 0, false))) = some (r1, r2, r3) := H
        have A24 := Aside0.mk A240
        clear A240
        by_cases c25 : t185 = true
        ·subst c25
         have H1 : (spec_DancedFrom.l0 k2 a1 (wrap64 (x7_2 + 1)) t183 t184) = some (r1, r2, r3) := by rw [if_pos rfl] at H; exact H
         clear H
         have H := H1
         clear H1
         have H' := Aside0.mk H
         clear H
         try go_wp2
         replace BK178 := Aside0.mk (blk_drew BK178.out)
         replace BK179 := Aside0.mk (blk_drew BK179.out)
         replace BK182 := Aside0.mk (blk_drew BK182.out)
         replace HB := Aside0.mk (below_drew1 HB.out)
         have p23 : 0 ≤ (x7_2 : Int) := of_decide_eq_true Z7
         have q23 : x7_2 < (a1.size : Int) := of_decide_eq_true Z7
         have hx23 := bt_at a1 x7_2
         replace p23 := eq_true p23
         replace q23 := eq_true q23
         refine start_ (n := 11) (S := fun w' => w'.cell? ⟨gb182, 0, none⟩ = some (.int .i64 x183000_2) ∧ w'.cell? ⟨gb182, 1, none⟩ = some (.int .i64 x183001_2)) (ds := []) #[false, false, false, false, false, false, false, false, false, false, false] (by kernel_rfl) rfl rfl ⟨(blk_cell BK182.out 0).trans rfl, (blk_cell BK182.out 1).trans rfl⟩ (fun hHeld => ?_); refine with_tabW spec_DancedFrom.tab7 spec_DancedFrom.bits7 (fun HT_ HW_ => ?_)
         generalize wr.drew = w26 at BK178 BK179 BK182 HB hHeld ⊢
         refine sqP (i := 1) (N := some 28) (h := ?_)
         refine sqP (i := 2) (N := some 29) (h := ?_)
         refine take_ (i := 0) (N := some 27) (v := ?_) (a' := ?_) #[true, true, true, false, false, false, false, false, false, false, false] rfl rfl (take_ofW HT_.out HW_.out (by kernel_rfl)) (fun _ _ _ h => h) (Or.inl ⟨by rfl, ?_⟩) hHeld ?_ ?_
         rotate_left
         ·rintro w' ⟨s0, s1⟩
          go_simp
          with_reducible rfl
         rotate_left
         ·simp only [Act.put, List.setIfInBounds_toArray, List.set_cons_zero, List.set_cons_succ, i64_w, i32_w]
          rfl
         refine take_ (i := 3) (N := some 30) (v := ?_) (a' := ?_) #[true, true, true, true, false, false, false, false, false, false, false] rfl rfl (take_ofW HT_.out HW_.out (by kernel_rfl)) (fun _ _ _ h => h) (Or.inl ⟨by rfl, ?_⟩) hHeld ?_ ?_
         rotate_left
         ·rintro w' ⟨s0, s1⟩
          go_simp
          with_reducible rfl
         rotate_left
         ·simp only [Act.put, List.setIfInBounds_toArray, List.set_cons_zero, List.set_cons_succ, i64_w, i32_w]
          rfl
         refine join_ (σ := Nat) 2 #[true, true, true, true, true, true, true, true, true, false, false] (fun s_ => [(31, .tuple #[.agg #[.int .i64 t183, .int .i64 t184], .bool true]), (8, .pointer (some ⟨s_, 0, none⟩)), (26, .tuple #[.agg #[.int .i64 t183, .int .i64 t184], .bool true]), (32, .agg #[.int .i64 t183, .int .i64 t184]), (33, .bool true)]) (fun s_ w' => (w'.cell? ⟨gb182, 0, none⟩ = some (.int .i64 x183000_2) ∧ w'.cell? ⟨gb182, 1, none⟩ = some (.int .i64 x183001_2)) ∧ (w'.heap[gb178]? = some (.cells #[.int .i64 a0_0, .int .i64 a0_1] 24 (0, 0))) ∧ (w'.heap[gb179]? = some (.cells #[.int .i64 x180000_2, .int .i64 x180001_2] 24 (0, 0))) ∧ (w'.heap[gb182]? = some (.cells #[.int .i64 x183000_2, .int .i64 x183001_2] 24 (0, 0))) ∧ (w'.heap[s_]? = some (.cells #[.int .i64 0, .int .i64 0] 24 (0, 0))) ∧ (w.heap.size ≤ s_) ∧ (w.heap.size ≤ s_) ∧ (gb178 ≠ s_) ∧ (s_ ≠ gb178) ∧ (gb179 ≠ s_) ∧ (s_ ≠ gb179) ∧ (gb182 ≠ s_) ∧ (s_ ≠ gb182) ∧ (Below w.heap.size w w')) ?_ ?_
         rotate_left
         ·intro hCont
          refine two_ (i := 4) (j := 8) (Ni := some 31) (Nj := some 8) #[true, true, true, true, true, false, false, false, false, false, false] #[true, true, true, true, false, false, false, false, true, false, false] rfl rfl rfl rfl (two_of HT_.out (by kernel_rfl)) (by decide) (by decide) (fun K hK => ?_) (fun K hK => ?_)
          ·skip
           refine goes_ Try.func39 (by kernel_rfl) rfl #[.agg #[.int .i64 x183000_2, .int .i64 x183001_2], .int .u8 (bt a1 x7_2)] (by rfl) rfl rfl sqA ?_
           with_reducible refine (spec_l2Move.calls k2 x183000_2 x183001_2 (bt a1 x7_2) t183 t184 true _ A24.out).mono ?_
           rintro e w27 ⟨rfl, hb⟩
           refine ⟨_, rfl, ?_⟩
           replace BK178 := sqT BK178 hb
           replace BK179 := sqT BK179 hb
           replace BK182 := sqT BK182 hb
           replace HB := sqS (sqB3 HB GE178 GE179 GE182) hb
           (try clear hb)
           (try clear hb2)
           (try clear hk)
           (try clear hi)
           refine hK.out _ _ ⟨(blk_cell BK182.out 0).trans rfl, (blk_cell BK182.out 1).trans rfl⟩ (fun hHeld => ?_)
           clear hK K
           refine sqN (some 31) ?_
           refine sqP (i := 5) (N := some 26) (h := ?_)
           refine sqP (i := 6) (N := some 32) (h := ?_)
           refine sqP (i := 7) (N := some 33) (h := ?_)
           refine one_ (i := 8) (N := some 8) #[true, true, true, true, true, true, true, true, true, false, false] rfl rfl (one_of HT_.out (by kernel_rfl)) (by decide) (fun K hK => ?_)
           refine box_step ?hg (N := 8) ?hd (cs := #[.int .i64 0, .int .i64 0]) (t := 24) ?hr ?_; (case hd => rfl); (case hg => rfl); (case hr => exact Z8)
           intro gb186 hg w28 hbox hb
           have BK186 := Aside0.mk (hbox)
           have GW186 := Aside0.mk ((sqG hg (sqB3 HB GE178 GE179 GE182)))
           have GE186 := Aside0.mk ((sqG hg (sqB3 HB GE178 GE179 GE182)))
           replace HB := sqS (sqB3 HB GE178 GE179 GE182) hb
           have NB178_186 := Aside0.mk ((Z41 BK178 : gb178 ≠ gb186))
           have NB186_178 := Aside0.mk ((Z42 BK178 : gb186 ≠ gb178))
           replace BK178 := sqT BK178 hb
           have NB179_186 := Aside0.mk ((Z41 BK179 : gb179 ≠ gb186))
           have NB186_179 := Aside0.mk ((Z42 BK179 : gb186 ≠ gb179))
           replace BK179 := sqT BK179 hb
           have NB182_186 := Aside0.mk ((Z41 BK182 : gb182 ≠ gb186))
           have NB186_182 := Aside0.mk ((Z42 BK182 : gb186 ≠ gb182))
           replace BK182 := sqT BK182 hb
           clear hb hbox hg
           refine hK.out _ _ ⟨(blk_cell BK182.out 0).trans rfl, (blk_cell BK182.out 1).trans rfl⟩ (fun hHeld => ?_)
           clear hK K
           refine sqN (some 8) ?_
           exact norm_ Z45 (hCont (gb186) _ ⟨hHeld, (sqK BK178), (sqK BK179), (sqK BK182), (sqK BK186), GW186.out, GE186.out, NB178_186.out, NB186_178.out, NB179_186.out, NB186_179.out, NB182_186.out, NB186_182.out, (sqB4 HB GE178 GE179 GE182 GE186)⟩)
          ·skip
           refine box_step ?hg (N := 8) ?hd (cs := #[.int .i64 0, .int .i64 0]) (t := 24) ?hr ?_; (case hd => rfl); (case hg => rfl); (case hr => exact Z8)
           intro gb186 hg w27 hbox hb
           have BK186 := Aside0.mk (hbox)
           have GW186 := Aside0.mk ((sqG hg (sqB3 HB GE178 GE179 GE182)))
           have GE186 := Aside0.mk ((sqG hg (sqB3 HB GE178 GE179 GE182)))
           replace HB := sqS (sqB3 HB GE178 GE179 GE182) hb
           have NB178_186 := Aside0.mk ((Z41 BK178 : gb178 ≠ gb186))
           have NB186_178 := Aside0.mk ((Z42 BK178 : gb186 ≠ gb178))
           replace BK178 := sqT BK178 hb
           have NB179_186 := Aside0.mk ((Z41 BK179 : gb179 ≠ gb186))
           have NB186_179 := Aside0.mk ((Z42 BK179 : gb186 ≠ gb179))
           replace BK179 := sqT BK179 hb
           have NB182_186 := Aside0.mk ((Z41 BK182 : gb182 ≠ gb186))
           have NB186_182 := Aside0.mk ((Z42 BK182 : gb186 ≠ gb182))
           replace BK182 := sqT BK182 hb
           clear hb hbox hg
           refine hK.out _ _ ⟨(blk_cell BK182.out 0).trans rfl, (blk_cell BK182.out 1).trans rfl⟩ (fun hHeld => ?_)
           clear hK K
           refine sqN (some 8) ?_
           refine one_ (i := 4) (N := some 31) #[true, true, true, true, true, false, false, false, true, false, false] rfl rfl (one_of HT_.out (by kernel_rfl)) (by decide) (fun K hK => ?_)
           refine goes_ Try.func39 (by kernel_rfl) rfl #[.agg #[.int .i64 x183000_2, .int .i64 x183001_2], .int .u8 (bt a1 x7_2)] (by rfl) rfl rfl sqA ?_
           with_reducible refine (spec_l2Move.calls k2 x183000_2 x183001_2 (bt a1 x7_2) t183 t184 true _ A24.out).mono ?_
           rintro e w28 ⟨rfl, hb⟩
           refine ⟨_, rfl, ?_⟩
           replace BK178 := sqT BK178 hb
           replace BK179 := sqT BK179 hb
           replace BK182 := sqT BK182 hb
           replace BK186 := sqT BK186 hb
           replace HB := sqS (sqB4 HB GE178 GE179 GE182 GE186) hb
           (try clear hb)
           (try clear hb2)
           (try clear hk)
           (try clear hi)
           refine hK.out _ _ ⟨(blk_cell BK182.out 0).trans rfl, (blk_cell BK182.out 1).trans rfl⟩ (fun hHeld => ?_)
           clear hK K
           refine sqN (some 31) ?_
           refine sqP (i := 5) (N := some 26) (h := ?_)
           refine sqP (i := 6) (N := some 32) (h := ?_)
           refine sqP (i := 7) (N := some 33) (h := ?_)
           exact norm_ Z45 (hCont (gb186) _ ⟨hHeld, (sqK BK178), (sqK BK179), (sqK BK182), (sqK BK186), GW186.out, GE186.out, NB178_186.out, NB186_178.out, NB179_186.out, NB186_179.out, NB182_186.out, NB186_182.out, (sqB4 HB GE178 GE179 GE182 GE186)⟩)
         rintro gb186 w29 ⟨hS_, h0_, h1_, h2_, h3_, h4_, h5_, h6_, h7_, h8_, h9_, h10_, h11_, h12_⟩
         have n0_ : Aside0 (w29.heap[gb178]? = some (.cells #[.int .i64 a0_0, .int .i64 a0_1] 24 (0, 0))) := ⟨h0_⟩
         have n1_ : Aside0 (w29.heap[gb179]? = some (.cells #[.int .i64 x180000_2, .int .i64 x180001_2] 24 (0, 0))) := ⟨h1_⟩
         have n2_ : Aside0 (w29.heap[gb182]? = some (.cells #[.int .i64 x183000_2, .int .i64 x183001_2] 24 (0, 0))) := ⟨h2_⟩
         have n3_ : Aside0 (w29.heap[gb186]? = some (.cells #[.int .i64 0, .int .i64 0] 24 (0, 0))) := ⟨h3_⟩
         have n4_ : Aside0 (w.heap.size ≤ gb186) := ⟨h4_⟩
         have n5_ : Aside0 (w.heap.size ≤ gb186) := ⟨h5_⟩
         have n6_ : Aside0 (gb178 ≠ gb186) := ⟨h6_⟩
         have n7_ : Aside0 (gb186 ≠ gb178) := ⟨h7_⟩
         have n8_ : Aside0 (gb179 ≠ gb186) := ⟨h8_⟩
         have n9_ : Aside0 (gb186 ≠ gb179) := ⟨h9_⟩
         have n10_ : Aside0 (gb182 ≠ gb186) := ⟨h10_⟩
         have n11_ : Aside0 (gb186 ≠ gb182) := ⟨h11_⟩
         have n12_ : Aside0 (Below w.heap.size w w29) := ⟨h12_⟩
         clear BK178
         clear BK179
         clear BK182
         clear HB
         clear h0_ h1_ h2_ h3_ h4_ h5_ h6_ h7_ h8_ h9_ h10_ h11_ h12_
         have BK178 := n0_
         have BK179 := n1_
         have BK182 := n2_
         have BK186 := n3_
         have GW186 := n4_
         have GE186 := n5_
         have NB178_186 := n6_
         have NB186_178 := n7_
         have NB179_186 := n8_
         have NB186_179 := n9_
         have NB182_186 := n10_
         have NB186_182 := n11_
         have HB := n12_
         clear n0_ n1_ n2_ n3_ n4_ n5_ n6_ n7_ n8_ n9_ n10_ n11_ n12_
         have hHeld : w29.cell? ⟨gb182, 0, none⟩ = some (.int .i64 x183000_2) ∧ w29.cell? ⟨gb182, 1, none⟩ = some (.int .i64 x183001_2) := hS_
         refine norm_ (a' := ?_) ?_ ?_
         rotate_left
         ·simp only [putAll, Act.put, List.setIfInBounds_toArray, List.set_cons_zero, List.set_cons_succ]
          rfl
         refine one_ (i := 9) (N := none) #[true, true, true, true, true, true, true, true, true, true, false] rfl rfl (one_of HT_.out (by kernel_rfl)) (by decide) (fun K hK => ?_)
         have hs30 : w29.cell? ⟨gb186, 0, none⟩ = some (.int .i64 0) := (blk_cell BK186.out 0).trans rfl
         have hfs30 := blk_frozen BK186.out 0
         have hns30_0 := NB178_186.out
         have hns30_1 := NB179_186.out
         have hns30_2 := NB182_186.out
         have hms30_0 := NB186_178.out
         have hms30_1 := NB186_179.out
         have hms30_2 := NB186_182.out
         have hs31 : w29.cell? ⟨gb186, 1, none⟩ = some (.int .i64 0) := (blk_cell BK186.out 1).trans rfl
         have hfs31 := blk_frozen BK186.out 1
         have hns31_0 := NB178_186.out
         have hns31_1 := NB179_186.out
         have hns31_2 := NB182_186.out
         have hms31_0 := NB186_178.out
         have hms31_1 := NB186_179.out
         have hms31_2 := NB186_182.out
         refine skip_ (w1 := ?_) (by rfl) rfl ?_ ?_
         rotate_left
         ·go_simp
          rfl
         refine hK.out _ _ ⟨((cell_far (p := ⟨gb186, _, none⟩) NB182_186.out _).trans (((cell_far (p := ⟨gb186, _, none⟩) NB182_186.out _).trans (hHeld.1)))), ((cell_far (p := ⟨gb186, _, none⟩) NB182_186.out _).trans (((cell_far (p := ⟨gb186, _, none⟩) NB182_186.out _).trans (hHeld.2))))⟩ (fun hHeld => ?_)
         clear hK K
         refine sqP (i := 10) (N := some 9) (h := ?_)
         refine done_ (done_of HT_.out (by kernel_rfl)) ?_
         have hnb32 := NB186_178.out
         have hnc32 := NB178_186.out
         have hnb33 := NB186_179.out
         have hnc33 := NB179_186.out
         have hnb34 := NB186_182.out
         have hnc34 := NB182_186.out
         obtain ⟨hcz35_0, hcz35_1, hfz35_0, hfz35_1⟩ := sqY2 BK186
         have hnb36 := NB182_178.out
         have hnc36 := NB178_182.out
         have hnb37 := NB182_179.out
         have hnc37 := NB179_182.out
         obtain ⟨hcz38_0, hcz38_1, hfz38_0, hfz38_1⟩ := sqY2 BK182
         try go_wp2
         go_roundg k2
         case measure => have := HJ2.out; have := HK2.out; omega
         case rel => exact ⟨(wrap64 (x7_2 + 1)), (x180000_2), (x180001_2), (t183), (t184), Z2, H', ⟨by have := HJ2.out; have := HK2.out; omega⟩, ⟨by refine sqFar ?_ NB178_182; refine sqFar ?_ NB178_182; refine sqFar ?_ NB178_186; refine sqFar ?_ NB178_186; exact sqK BK178⟩, ⟨by refine sqFar ?_ NB179_182; refine sqFar ?_ NB179_182; refine sqFar ?_ NB179_186; refine sqFar ?_ NB179_186; exact sqK BK179⟩, ⟨by refine sqPut (cs := #[.int .i64 t183, .int .i64 x183001_2]) ?_ 1; refine sqPut (cs := #[.int .i64 x183000_2, .int .i64 x183001_2]) ?_ 0; refine sqFar ?_ NB182_186; refine sqFar ?_ NB182_186; exact sqK BK182⟩, ⟨sqB4 HB GE178 GE179 GE182 GE186⟩⟩
        ·replace c25 := Bool.eq_false_iff.mpr c25
         subst c25
         have H1 : (some (0, 0, false)) = some (r1, r2, r3) := by rw [if_neg (show ¬ (false = true) by decide)] at H; exact H
         clear H
         have H := H1
         clear H1
         simp only [Option.some.injEq, Prod.mk.injEq] at H
         obtain ⟨rfl, rfl, rfl⟩ := H
         try go_wp2
         replace BK178 := Aside0.mk (blk_drew BK178.out)
         replace BK179 := Aside0.mk (blk_drew BK179.out)
         replace BK182 := Aside0.mk (blk_drew BK182.out)
         replace HB := Aside0.mk (below_drew1 HB.out)
         have p23 : 0 ≤ (x7_2 : Int) := of_decide_eq_true Z7
         have q23 : x7_2 < (a1.size : Int) := of_decide_eq_true Z7
         have hx23 := bt_at a1 x7_2
         replace p23 := eq_true p23
         replace q23 := eq_true q23
         refine start_ (n := 11) (S := fun w' => w'.cell? ⟨gb182, 0, none⟩ = some (.int .i64 x183000_2) ∧ w'.cell? ⟨gb182, 1, none⟩ = some (.int .i64 x183001_2)) (ds := []) #[false, false, false, false, false, false, false, false, false, false, false] (by kernel_rfl) rfl rfl ⟨(blk_cell BK182.out 0).trans rfl, (blk_cell BK182.out 1).trans rfl⟩ (fun hHeld => ?_); refine with_tabW spec_DancedFrom.tab7 spec_DancedFrom.bits7 (fun HT_ HW_ => ?_)
         generalize wr.drew = w39 at BK178 BK179 BK182 HB hHeld ⊢
         refine sqP (i := 1) (N := some 28) (h := ?_)
         refine sqP (i := 2) (N := some 29) (h := ?_)
         refine take_ (i := 0) (N := some 27) (v := ?_) (a' := ?_) #[true, true, true, false, false, false, false, false, false, false, false] rfl rfl (take_ofW HT_.out HW_.out (by kernel_rfl)) (fun _ _ _ h => h) (Or.inl ⟨by rfl, ?_⟩) hHeld ?_ ?_
         rotate_left
         ·rintro w' ⟨s0, s1⟩
          go_simp
          with_reducible rfl
         rotate_left
         ·simp only [Act.put, List.setIfInBounds_toArray, List.set_cons_zero, List.set_cons_succ, i64_w, i32_w]
          rfl
         refine take_ (i := 3) (N := some 30) (v := ?_) (a' := ?_) #[true, true, true, true, false, false, false, false, false, false, false] rfl rfl (take_ofW HT_.out HW_.out (by kernel_rfl)) (fun _ _ _ h => h) (Or.inl ⟨by rfl, ?_⟩) hHeld ?_ ?_
         rotate_left
         ·rintro w' ⟨s0, s1⟩
          go_simp
          with_reducible rfl
         rotate_left
         ·simp only [Act.put, List.setIfInBounds_toArray, List.set_cons_zero, List.set_cons_succ, i64_w, i32_w]
          rfl
         refine join_ (σ := Nat) 2 #[true, true, true, true, true, true, true, true, true, false, false] (fun s_ => [(31, .tuple #[.agg #[.int .i64 t183, .int .i64 t184], .bool false]), (8, .pointer (some ⟨s_, 0, none⟩)), (26, .tuple #[.agg #[.int .i64 t183, .int .i64 t184], .bool false]), (32, .agg #[.int .i64 t183, .int .i64 t184]), (33, .bool false)]) (fun s_ w' => (w'.cell? ⟨gb182, 0, none⟩ = some (.int .i64 x183000_2) ∧ w'.cell? ⟨gb182, 1, none⟩ = some (.int .i64 x183001_2)) ∧ (w'.heap[gb178]? = some (.cells #[.int .i64 a0_0, .int .i64 a0_1] 24 (0, 0))) ∧ (w'.heap[gb179]? = some (.cells #[.int .i64 x180000_2, .int .i64 x180001_2] 24 (0, 0))) ∧ (w'.heap[gb182]? = some (.cells #[.int .i64 x183000_2, .int .i64 x183001_2] 24 (0, 0))) ∧ (w'.heap[s_]? = some (.cells #[.int .i64 0, .int .i64 0] 24 (0, 0))) ∧ (w.heap.size ≤ s_) ∧ (w.heap.size ≤ s_) ∧ (gb178 ≠ s_) ∧ (s_ ≠ gb178) ∧ (gb179 ≠ s_) ∧ (s_ ≠ gb179) ∧ (gb182 ≠ s_) ∧ (s_ ≠ gb182) ∧ (Below w.heap.size w w')) ?_ ?_
         rotate_left
         ·intro hCont
          refine two_ (i := 4) (j := 8) (Ni := some 31) (Nj := some 8) #[true, true, true, true, true, false, false, false, false, false, false] #[true, true, true, true, false, false, false, false, true, false, false] rfl rfl rfl rfl (two_of HT_.out (by kernel_rfl)) (by decide) (by decide) (fun K hK => ?_) (fun K hK => ?_)
          ·skip
           refine goes_ Try.func39 (by kernel_rfl) rfl #[.agg #[.int .i64 x183000_2, .int .i64 x183001_2], .int .u8 (bt a1 x7_2)] (by rfl) rfl rfl sqA ?_
           with_reducible refine (spec_l2Move.calls k2 x183000_2 x183001_2 (bt a1 x7_2) t183 t184 false _ A24.out).mono ?_
           rintro e w40 ⟨rfl, hb⟩
           refine ⟨_, rfl, ?_⟩
           replace BK178 := sqT BK178 hb
           replace BK179 := sqT BK179 hb
           replace BK182 := sqT BK182 hb
           replace HB := sqS (sqB3 HB GE178 GE179 GE182) hb
           (try clear hb)
           (try clear hb2)
           (try clear hk)
           (try clear hi)
           refine hK.out _ _ ⟨(blk_cell BK182.out 0).trans rfl, (blk_cell BK182.out 1).trans rfl⟩ (fun hHeld => ?_)
           clear hK K
           refine sqN (some 31) ?_
           refine sqP (i := 5) (N := some 26) (h := ?_)
           refine sqP (i := 6) (N := some 32) (h := ?_)
           refine sqP (i := 7) (N := some 33) (h := ?_)
           refine one_ (i := 8) (N := some 8) #[true, true, true, true, true, true, true, true, true, false, false] rfl rfl (one_of HT_.out (by kernel_rfl)) (by decide) (fun K hK => ?_)
           refine box_step ?hg (N := 8) ?hd (cs := #[.int .i64 0, .int .i64 0]) (t := 24) ?hr ?_; (case hd => rfl); (case hg => rfl); (case hr => exact Z8)
           intro gb186 hg w41 hbox hb
           have BK186 := Aside0.mk (hbox)
           have GW186 := Aside0.mk ((sqG hg (sqB3 HB GE178 GE179 GE182)))
           have GE186 := Aside0.mk ((sqG hg (sqB3 HB GE178 GE179 GE182)))
           replace HB := sqS (sqB3 HB GE178 GE179 GE182) hb
           have NB178_186 := Aside0.mk ((Z41 BK178 : gb178 ≠ gb186))
           have NB186_178 := Aside0.mk ((Z42 BK178 : gb186 ≠ gb178))
           replace BK178 := sqT BK178 hb
           have NB179_186 := Aside0.mk ((Z41 BK179 : gb179 ≠ gb186))
           have NB186_179 := Aside0.mk ((Z42 BK179 : gb186 ≠ gb179))
           replace BK179 := sqT BK179 hb
           have NB182_186 := Aside0.mk ((Z41 BK182 : gb182 ≠ gb186))
           have NB186_182 := Aside0.mk ((Z42 BK182 : gb186 ≠ gb182))
           replace BK182 := sqT BK182 hb
           clear hb hbox hg
           refine hK.out _ _ ⟨(blk_cell BK182.out 0).trans rfl, (blk_cell BK182.out 1).trans rfl⟩ (fun hHeld => ?_)
           clear hK K
           refine sqN (some 8) ?_
           exact norm_ Z45 (hCont (gb186) _ ⟨hHeld, (sqK BK178), (sqK BK179), (sqK BK182), (sqK BK186), GW186.out, GE186.out, NB178_186.out, NB186_178.out, NB179_186.out, NB186_179.out, NB182_186.out, NB186_182.out, (sqB4 HB GE178 GE179 GE182 GE186)⟩)
          ·skip
           refine box_step ?hg (N := 8) ?hd (cs := #[.int .i64 0, .int .i64 0]) (t := 24) ?hr ?_; (case hd => rfl); (case hg => rfl); (case hr => exact Z8)
           intro gb186 hg w40 hbox hb
           have BK186 := Aside0.mk (hbox)
           have GW186 := Aside0.mk ((sqG hg (sqB3 HB GE178 GE179 GE182)))
           have GE186 := Aside0.mk ((sqG hg (sqB3 HB GE178 GE179 GE182)))
           replace HB := sqS (sqB3 HB GE178 GE179 GE182) hb
           have NB178_186 := Aside0.mk ((Z41 BK178 : gb178 ≠ gb186))
           have NB186_178 := Aside0.mk ((Z42 BK178 : gb186 ≠ gb178))
           replace BK178 := sqT BK178 hb
           have NB179_186 := Aside0.mk ((Z41 BK179 : gb179 ≠ gb186))
           have NB186_179 := Aside0.mk ((Z42 BK179 : gb186 ≠ gb179))
           replace BK179 := sqT BK179 hb
           have NB182_186 := Aside0.mk ((Z41 BK182 : gb182 ≠ gb186))
           have NB186_182 := Aside0.mk ((Z42 BK182 : gb186 ≠ gb182))
           replace BK182 := sqT BK182 hb
           clear hb hbox hg
           refine hK.out _ _ ⟨(blk_cell BK182.out 0).trans rfl, (blk_cell BK182.out 1).trans rfl⟩ (fun hHeld => ?_)
           clear hK K
           refine sqN (some 8) ?_
           refine one_ (i := 4) (N := some 31) #[true, true, true, true, true, false, false, false, true, false, false] rfl rfl (one_of HT_.out (by kernel_rfl)) (by decide) (fun K hK => ?_)
           refine goes_ Try.func39 (by kernel_rfl) rfl #[.agg #[.int .i64 x183000_2, .int .i64 x183001_2], .int .u8 (bt a1 x7_2)] (by rfl) rfl rfl sqA ?_
           with_reducible refine (spec_l2Move.calls k2 x183000_2 x183001_2 (bt a1 x7_2) t183 t184 false _ A24.out).mono ?_
           rintro e w41 ⟨rfl, hb⟩
           refine ⟨_, rfl, ?_⟩
           replace BK178 := sqT BK178 hb
           replace BK179 := sqT BK179 hb
           replace BK182 := sqT BK182 hb
           replace BK186 := sqT BK186 hb
           replace HB := sqS (sqB4 HB GE178 GE179 GE182 GE186) hb
           (try clear hb)
           (try clear hb2)
           (try clear hk)
           (try clear hi)
           refine hK.out _ _ ⟨(blk_cell BK182.out 0).trans rfl, (blk_cell BK182.out 1).trans rfl⟩ (fun hHeld => ?_)
           clear hK K
           refine sqN (some 31) ?_
           refine sqP (i := 5) (N := some 26) (h := ?_)
           refine sqP (i := 6) (N := some 32) (h := ?_)
           refine sqP (i := 7) (N := some 33) (h := ?_)
           exact norm_ Z45 (hCont (gb186) _ ⟨hHeld, (sqK BK178), (sqK BK179), (sqK BK182), (sqK BK186), GW186.out, GE186.out, NB178_186.out, NB186_178.out, NB179_186.out, NB186_179.out, NB182_186.out, NB186_182.out, (sqB4 HB GE178 GE179 GE182 GE186)⟩)
         rintro gb186 w42 ⟨hS_, h0_, h1_, h2_, h3_, h4_, h5_, h6_, h7_, h8_, h9_, h10_, h11_, h12_⟩
         have n0_ : Aside0 (w42.heap[gb178]? = some (.cells #[.int .i64 a0_0, .int .i64 a0_1] 24 (0, 0))) := ⟨h0_⟩
         have n1_ : Aside0 (w42.heap[gb179]? = some (.cells #[.int .i64 x180000_2, .int .i64 x180001_2] 24 (0, 0))) := ⟨h1_⟩
         have n2_ : Aside0 (w42.heap[gb182]? = some (.cells #[.int .i64 x183000_2, .int .i64 x183001_2] 24 (0, 0))) := ⟨h2_⟩
         have n3_ : Aside0 (w42.heap[gb186]? = some (.cells #[.int .i64 0, .int .i64 0] 24 (0, 0))) := ⟨h3_⟩
         have n4_ : Aside0 (w.heap.size ≤ gb186) := ⟨h4_⟩
         have n5_ : Aside0 (w.heap.size ≤ gb186) := ⟨h5_⟩
         have n6_ : Aside0 (gb178 ≠ gb186) := ⟨h6_⟩
         have n7_ : Aside0 (gb186 ≠ gb178) := ⟨h7_⟩
         have n8_ : Aside0 (gb179 ≠ gb186) := ⟨h8_⟩
         have n9_ : Aside0 (gb186 ≠ gb179) := ⟨h9_⟩
         have n10_ : Aside0 (gb182 ≠ gb186) := ⟨h10_⟩
         have n11_ : Aside0 (gb186 ≠ gb182) := ⟨h11_⟩
         have n12_ : Aside0 (Below w.heap.size w w42) := ⟨h12_⟩
         clear BK178
         clear BK179
         clear BK182
         clear HB
         clear h0_ h1_ h2_ h3_ h4_ h5_ h6_ h7_ h8_ h9_ h10_ h11_ h12_
         have BK178 := n0_
         have BK179 := n1_
         have BK182 := n2_
         have BK186 := n3_
         have GW186 := n4_
         have GE186 := n5_
         have NB178_186 := n6_
         have NB186_178 := n7_
         have NB179_186 := n8_
         have NB186_179 := n9_
         have NB182_186 := n10_
         have NB186_182 := n11_
         have HB := n12_
         clear n0_ n1_ n2_ n3_ n4_ n5_ n6_ n7_ n8_ n9_ n10_ n11_ n12_
         have hHeld : w42.cell? ⟨gb182, 0, none⟩ = some (.int .i64 x183000_2) ∧ w42.cell? ⟨gb182, 1, none⟩ = some (.int .i64 x183001_2) := hS_
         refine norm_ (a' := ?_) ?_ ?_
         rotate_left
         ·simp only [putAll, Act.put, List.setIfInBounds_toArray, List.set_cons_zero, List.set_cons_succ]
          rfl
         refine one_ (i := 9) (N := none) #[true, true, true, true, true, true, true, true, true, true, false] rfl rfl (one_of HT_.out (by kernel_rfl)) (by decide) (fun K hK => ?_)
         have hs43 : w42.cell? ⟨gb186, 0, none⟩ = some (.int .i64 0) := (blk_cell BK186.out 0).trans rfl
         have hfs43 := blk_frozen BK186.out 0
         have hns43_0 := NB178_186.out
         have hns43_1 := NB179_186.out
         have hns43_2 := NB182_186.out
         have hms43_0 := NB186_178.out
         have hms43_1 := NB186_179.out
         have hms43_2 := NB186_182.out
         have hs44 : w42.cell? ⟨gb186, 1, none⟩ = some (.int .i64 0) := (blk_cell BK186.out 1).trans rfl
         have hfs44 := blk_frozen BK186.out 1
         have hns44_0 := NB178_186.out
         have hns44_1 := NB179_186.out
         have hns44_2 := NB182_186.out
         have hms44_0 := NB186_178.out
         have hms44_1 := NB186_179.out
         have hms44_2 := NB186_182.out
         refine skip_ (w1 := ?_) (by rfl) rfl ?_ ?_
         rotate_left
         ·go_simp
          rfl
         refine hK.out _ _ ⟨((cell_far (p := ⟨gb186, _, none⟩) NB182_186.out _).trans (((cell_far (p := ⟨gb186, _, none⟩) NB182_186.out _).trans (hHeld.1)))), ((cell_far (p := ⟨gb186, _, none⟩) NB182_186.out _).trans (((cell_far (p := ⟨gb186, _, none⟩) NB182_186.out _).trans (hHeld.2))))⟩ (fun hHeld => ?_)
         clear hK K
         refine sqP (i := 10) (N := some 9) (h := ?_)
         refine done_ (done_of HT_.out (by kernel_rfl)) ?_
         have hnb45 := NB179_178.out
         have hnc45 := NB178_179.out
         have hnb46 := NB179_182.out
         have hnc46 := NB182_179.out
         have hnb47 := NB179_186.out
         have hnc47 := NB186_179.out
         obtain ⟨hcz48_0, hcz48_1, hfz48_0, hfz48_1⟩ := sqY2 BK179
         try go_wp2
         refine bodyPost_ret (results_ct rfl _ _ gb179 24 #[.int .i64 0, .int .i64 0] (0, 0) _ rfl (by refine sqPut (cs := #[.int .i64 0, .int .i64 x180001_2]) ?_ 1; refine sqPut (cs := #[.int .i64 x180000_2, .int .i64 x180001_2]) ?_ 0; refine sqFar ?_ NB179_186; refine sqFar ?_ NB179_186; exact sqK BK179) Try.underlying24 rfl (by kernel_rfl)) rfl ?_
         exact ⟨Z14, sqB4 HB GE178 GE179 GE182 GE186⟩
       ·rw [if_neg c22] at H
        exact absurd H (by simp)
      ·rw [if_neg c21] at H
       have c21b0 : decide (x7_2 < (a1.size : Int)) = false := decide_eq_false c21
       clear c21
       simp only [Option.some.injEq, Prod.mk.injEq] at H
       obtain ⟨rfl, rfl, rfl⟩ := H
       have hnb49 := NB182_178.out
       have hnc49 := NB178_182.out
       have hnb50 := NB182_179.out
       have hnc50 := NB179_182.out
       obtain ⟨hcz51_0, hcz51_1, hfz51_0, hfz51_1⟩ := sqY2 BK182
       have hnb52 := NB179_178.out
       have hnc52 := NB178_179.out
       obtain ⟨hcz53_0, hcz53_1, hfz53_0, hfz53_1⟩ := sqY2 BK179
       go_wp2
       refine bodyPost_ret (results_ct rfl _ _ gb179 24 #[.int .i64 x183000_2, .int .i64 x183001_2] (0, 0) _ rfl (by refine sqPut (cs := #[.int .i64 x183000_2, .int .i64 x180001_2]) ?_ 1; refine sqPut (cs := #[.int .i64 x180000_2, .int .i64 x180001_2]) ?_ 0; exact sqK BK179) Try.underlying24 rfl (by kernel_rfl)) rfl ?_
       exact ⟨Z14, sqB3 HB GE178 GE179 GE182⟩

end Go.Proofs.Ytcfnihniaakbeaa.PFnDeskOk
