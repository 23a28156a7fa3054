/- Lean functions of the Go functions that the law FnDeskRun reaches, each with its contract: made by a program of this session. -/
import Derived.Test.YtofmlbgfcohhoaaGreatDoorPFnDeskRunx0
import Derived.Test.YtofmlbgfcohhoaaGreatDoorPFnDeskRunx4
import Derived.Test.YtofmlbgfcohhoaaGreatDoorPFnDeskRunx6
namespace Go.Proofs.YtofmlbgfcohhoaaGreatDoor.PFnDeskRun
open Go.RowKit Go.Proofs.YtofmlbgfcohhoaaGreatDoorW.PrintWords Go.Proofs.YtofmlbgfcohhoaaGreatDoorW.PrintLast Go.Proofs.YtofmlbgfcohhoaaGreatDoorW.PrintMore Go.Proofs.YtofmlbgfcohhoaaGreatDoor.Lib
attribute [local go_sem] max2_int min2_int max_two min_two max_three min_three max_four min_four   -- for this text's walks alone
set_option linter.unusedVariables false
set_option linter.unusedSimpArgs false

/-! ### spec_DancedFrom: function 106 -/
mutual
def spec_DancedFrom.j0 : Nat → ByteArray → Bool → Int → Int → Option (Int × Int × Bool)
 | 0, _, _, _, _ => none
 | k + 1, x1, x17, x180000, x180001 => if x17 = true then (some (0, 0, false)) else (spec_DancedFrom.l0 k x1 0 x180000 x180001)
def spec_DancedFrom.l0 : Nat → ByteArray → Int → Int → Int → Option (Int × Int × Bool)
 | 0, _, _, _, _ => none
 | k + 1, x1, x7, x184000, x184001 => if x7 < (x1.size : Int) then (if 0 ≤ x7 then ((spec_l2Move.f k x184000 x184001 (bt x1 x7)).bind fun bt184 => (if bt184.2.2 = true then (spec_DancedFrom.l0 k x1 (wrap64 (x7 + 1)) bt184.1 bt184.2.1) else (some (0, 0, false)))) else (none)) else (some (x184000, x184001, true))
end
def spec_DancedFrom.f (k : Nat) (a0_0 : Int) (a0_1 : Int) (a1 : ByteArray) : Option (Int × Int × Bool) := (spec_DanceOk.f k a1).bind fun t181 => (if t181 = true then ((spec_FractionOk.f k a0_0 a0_1).bind fun t182 => (spec_DancedFrom.j0 k a1 (!t182) a0_0 a0_1)) else (spec_DancedFrom.j0 k a1 true a0_0 a0_1))
theorem spec_DancedFrom.mono_l : ∀ k, (∀ y0 y1 y2 y3, LeO (spec_DancedFrom.j0 k y0 y1 y2 y3) (spec_DancedFrom.j0 (k + 1) y0 y1 y2 y3)) ∧ (∀ y0 y1 y2 y3, LeO (spec_DancedFrom.l0 k y0 y1 y2 y3) (spec_DancedFrom.l0 (k + 1) y0 y1 y2 y3))
 | 0 => ⟨fun _ _ _ _ r h => by simp [spec_DancedFrom.j0] at h, fun _ _ _ _ r h => by simp [spec_DancedFrom.l0] at h⟩
 | k + 1 => by
  obtain ⟨ih0, ih1⟩ := spec_DancedFrom.mono_l k
  refine ⟨?_, ?_⟩
  ·intro y0 y1 y2 y3
   unfold spec_DancedFrom.j0
   repeat' first
   | (with_reducible exact ih0 _ _ _ _)
   | (with_reducible exact ih1 _ _ _ _)
   | (with_reducible exact spec_DanceOk.mono _ _)
   | (with_reducible exact spec_FractionOk.mono _ _ _)
   | (with_reducible exact spec_l2Move.mono _ _ _ _)
   | (with_reducible exact LeO.refl _)
   | (with_reducible exact LeO.none _)
   | (with_reducible refine LeO.ite ?_ ?_)
   | (with_reducible refine LeO.bind ?_ (fun _ => ?_))
  ·intro y0 y1 y2 y3
   unfold spec_DancedFrom.l0
   repeat' first
   | (with_reducible exact ih0 _ _ _ _)
   | (with_reducible exact ih1 _ _ _ _)
   | (with_reducible exact spec_DanceOk.mono _ _)
   | (with_reducible exact spec_FractionOk.mono _ _ _)
   | (with_reducible exact spec_l2Move.mono _ _ _ _)
   | (with_reducible exact LeO.refl _)
   | (with_reducible exact LeO.none _)
   | (with_reducible refine LeO.ite ?_ ?_)
   | (with_reducible refine LeO.bind ?_ (fun _ => ?_))
theorem spec_DancedFrom.mono : ∀ a0 a1 a2 k, LeO (spec_DancedFrom.f k a0 a1 a2) (spec_DancedFrom.f (k + 1) a0 a1 a2) := by
 intro a0 a1 a2 k
 obtain ⟨ih0, ih1⟩ := spec_DancedFrom.mono_l k
 unfold spec_DancedFrom.f
 repeat' first
   | (with_reducible exact ih0 _ _ _ _)
   | (with_reducible exact ih1 _ _ _ _)
   | (with_reducible exact spec_DanceOk.mono _ _)
   | (with_reducible exact spec_FractionOk.mono _ _ _)
   | (with_reducible exact spec_l2Move.mono _ _ _ _)
   | (with_reducible exact LeO.refl _)
   | (with_reducible exact LeO.none _)
   | (with_reducible refine LeO.ite ?_ ?_)
   | (with_reducible refine LeO.bind ?_ (fun _ => ?_))
def spec_DancedFrom.T7 : Bool × List (List Nat × List Nat) := (true, [([], []), ([], []), ([], []), ([1, 2], [1, 2]), ([0, 3], [0, 3]), ([4], [4]), ([5], [5]), ([5], [5]), ([], []), ([8, 6, 4, 0, 1, 2, 3, 4, 5, 6, 8], [6, 8]), ([7, 9, 0, 1, 2, 3, 4, 5, 6, 7, 8, 9], [7])])
def spec_DancedFrom.B7 : List Nat := [0, 0, 0, 6, 15, 31, 63, 63, 0, 383, 1023]
theorem spec_DancedFrom.tab7 : rtab .any (opsOf Tryz.f106 7) = spec_DancedFrom.T7 := by kernel_rfl
theorem spec_DancedFrom.bits7 : waitsOk spec_DancedFrom.T7.2 spec_DancedFrom.B7 = true := by kernel_rfl
set_option maxHeartbeats 8000000 in
set_option maxRecDepth 100000 in
theorem spec_DancedFrom.calls (k : Nat) (a0_0 : Int) (a0_1 : Int) (a1 : ByteArray) (r1 : Int) (r2 : Int) (r3 : Bool) (w : World) (h : spec_DancedFrom.f k a0_0 a0_1 a1 = some (r1, r2, r3)) :
  Calls Tryz.prog 106 #[.agg #[.int .i64 a0_0, .int .i64 a0_1], .string a1] w fun e w' => e = .returned (.tuple #[.agg #[.int .i64 r1, .int .i64 r2], .bool r3]) ∧ Below w.heap.size w w' := by
 have hu31 := Tryz.underlying31
 have HB := Aside0.mk (Below.refl w.heap.size w)
 have H : ((spec_DanceOk.f k a1).bind fun t181 => (if t181 = true then ((spec_FractionOk.f k a0_0 a0_1).bind fun t182 => (spec_DancedFrom.j0 k a1 (!t182) a0_0 a0_1)) else (spec_DancedFrom.j0 k a1 true a0_0 a0_1))) = some (r1, r2, r3) := h
 clear h
 have HC3 := Aside0.mk H
 clear H
 go_enter Tryz.func106, Tryz.ntmps106
 go_upto_region 1 with (first | ((with_reducible refine gate_dst (N := 2) rfl ?_); refine sqBox (N := 2) (cs := #[.int .i64 a0_0, .int .i64 a0_1]) (t := 31) ?_; intro gb179 hg w4 BK179 hb; have GW179 := Aside0.mk ((sqG hg (sqB HB))); have GE179 := GW179; replace HB := sqS (sqB HB) hb; clear hb hg) | ((with_reducible refine gate_dst (N := 4) rfl ?_); refine sqBox (N := 4) (cs := #[.int .i64 0, .int .i64 0]) (t := 31) ?_; intro gb180 hg w5 BK180 hb; have GW180 := Aside0.mk ((sqG hg (sqB1 HB GE179))); have GE180 := GW180; replace HB := sqS (sqB1 HB GE179) hb; obtain ⟨NB179_180, NB180_179⟩ := sqM hg BK179; replace BK179 := sqT BK179 hb; clear hb hg))
 (try simp only [Act.put, List.setIfInBounds_toArray, List.set_cons_zero, List.set_cons_succ])
 go_cut [17] (fun v17 wc => ∃ (kq : Nat) (x17_2 : Bool), v17 = .bool x17_2 ∧ Aside0 (spec_DancedFrom.j0 kq a1 x17_2 a0_0 a0_1 = some (r1, r2, r3)) ∧ Aside0 (kq ≤ k) ∧ Aside0 (wc.heap[gb179]? = some (.cells #[.int .i64 a0_0, .int .i64 a0_1] 31 (0, 0))) ∧ Aside0 (wc.heap[gb180]? = some (.cells #[.int .i64 0, .int .i64 0] 31 (0, 0))) ∧ Aside0 (Below w.heap.size w wc))
 case first =>
  have H := HC3.out
  clear HC3
  obtain ⟨t181, A6, H⟩ := sqD H
  by_cases c7 : t181 = true
  ·subst c7
   rw [if_pos rfl] at H
   obtain ⟨t182, A8, H⟩ := sqD H
   have H' := Aside0.mk H
   clear H
   go_wp2_with (first | ((with_reducible refine gate_callee (f := 134) rfl ?_); refine goesL_ (some 11) rfl rfl Tryz.func134 (by kernel_rfl) rfl #[.string a1] rfl sqA ?_; (with_reducible refine (spec_DanceOk.calls k a1 true _ A6.out).mono ?_); rintro e w' ⟨rfl, ⟨nd, rfl⟩⟩; refine ⟨_, rfl, ?_⟩; have hnb9 := NB179_180.out; have hnc9 := NB180_179.out; obtain ⟨hcz10_0, hcz10_1, hfz10_0, hfz10_1⟩ := sqY2 BK179) | (go_at_call 77; (with_reducible refine (spec_FractionOk.calls k a0_0 a0_1 t182 _ A8.out).mono ?_); rintro e w11 ⟨rfl, hb⟩; replace BK179 := sqT BK179 hb; replace BK180 := sqT BK180 hb; replace HB := sqS (sqB2 HB GE179 GE180) hb; (try clear hb)))
   go_meet
   case rel => exact ⟨_, (!t182), Z2, H', ⟨Z3⟩, ⟨sqK BK179⟩, ⟨sqK BK180⟩, ⟨sqB2 HB GE179 GE180⟩⟩
  ·replace c7 := Bool.eq_false_iff.mpr c7
   subst c7
   rw [if_neg sqF] at H
   have H' := Aside0.mk H
   clear H
   go_wp2_with (first | ((with_reducible refine gate_callee (f := 134) rfl ?_); refine goesL_ (some 11) rfl rfl Tryz.func134 (by kernel_rfl) rfl #[.string a1] rfl sqA ?_; (with_reducible refine (spec_DanceOk.calls k a1 false _ A6.out).mono ?_); rintro e w' ⟨rfl, ⟨nd, rfl⟩⟩; refine ⟨_, rfl, ?_⟩))
   go_meet
   case rel => exact ⟨_, (true), Z2, H', ⟨Z3⟩, ⟨sqK BK179⟩, ⟨sqK BK180⟩, ⟨sqB2 HB GE179 GE180⟩⟩
 case rest =>
  clear HC3
  try clear c1; try clear p2; try clear c7; try clear c9; try clear c10; try clear hcz10_0; try clear hcz10_1; try clear hfz10_0; try clear hfz10_1
  obtain ⟨kq, x17_2, rfl, HA, HJ2, BK179, BK180, HB⟩ := hcut
  cases kq with
  | zero => exact absurd HA.out (by simp [spec_DancedFrom.j0])
  | succ kj2 =>
   have H := HA.out
   clear HA
   simp only [spec_DancedFrom.j0] at H
   by_cases c12 : x17_2 = true
   ·subst c12
    rw [if_pos rfl] at H
    simp only [Option.some.injEq, Prod.mk.injEq] at H
    obtain ⟨rfl, rfl, rfl⟩ := H
    have hnb13 := NB180_179.out
    have hnc13 := NB179_180.out
    obtain ⟨hcz14_0, hcz14_1, hfz14_0, hfz14_1⟩ := sqY2 BK180
    go_wp2
    refine bodyPost_ret (results_ct rfl _ _ gb180 31 #[.int .i64 0, .int .i64 0] (0, 0) _ rfl (Z36 BK180) Tryz.underlying31 rfl (by kernel_rfl)) rfl ?_
    exact ⟨Z15, sqB2 HB GE179 GE180⟩
   ·replace c12 := Bool.eq_false_iff.mpr c12
    subst c12
    rw [if_neg sqF] at H
    have H' := Aside0.mk H
    clear H
    have hnb15 := NB179_180.out
    have hnc15 := NB180_179.out
    obtain ⟨hcz16_0, hcz16_1, hfz16_0, hfz16_1⟩ := sqY2 BK179
    go_wp2_with (first | ((with_reducible refine gate_dst (N := 6) rfl ?_); refine sqBox (N := 6) (cs := #[.int .i64 0, .int .i64 0]) (t := 31) ?_; intro gb183 hg w17 BK183 hb; have GW183 := Aside0.mk ((sqG hg (sqB2 HB GE179 GE180))); have GE183 := GW183; replace HB := sqS (sqB2 HB GE179 GE180) hb; obtain ⟨NB179_183, NB183_179⟩ := sqM hg BK179; replace BK179 := sqT BK179 hb; obtain ⟨NB180_183, NB183_180⟩ := sqM hg BK180; replace BK180 := sqT BK180 hb; clear hb hg; have hnb18 := NB183_179.out; have hnc18 := NB179_183.out; have hnb19 := NB183_180.out; have hnc19 := NB180_183.out; obtain ⟨hcz20_0, hcz20_1, hfz20_0, hfz20_1⟩ := sqY2 BK183))
    go_loopg [7] kj2 (fun kq v7 w' => ∃ (x7_2 : Int) (x181000_2 : Int) (x181001_2 : Int) (x184000_2 : Int) (x184001_2 : Int), v7 = .int .i64 x7_2 ∧ Aside0 (spec_DancedFrom.l0 kq a1 x7_2 x184000_2 x184001_2 = some (r1, r2, r3)) ∧ Aside0 (kq ≤ kj2) ∧ Aside0 (w'.heap[gb179]? = some (.cells #[.int .i64 a0_0, .int .i64 a0_1] 31 (0, 0))) ∧ Aside0 (w'.heap[gb180]? = some (.cells #[.int .i64 x181000_2, .int .i64 x181001_2] 31 (0, 0))) ∧ Aside0 (w'.heap[gb183]? = some (.cells #[.int .i64 x184000_2, .int .i64 x184001_2] 31 (0, 0))) ∧ Aside0 (Below w.heap.size w w'))
    case atStart => exact ⟨(0), (0), (0), (a0_0), (a0_1), Z2, H', ⟨Nat.le_refl _⟩, ⟨Z9 NB179_183 BK179⟩, ⟨Z9 NB180_183 BK180⟩, ⟨Z77 BK183⟩, ⟨sqB3 HB GE179 GE180 GE183⟩⟩
    case round =>
     clear H'
     try clear c1; try clear p2; try clear c7; try clear c9; try clear c10; try clear c12; try clear c13; try clear c15; try clear c18; try clear c19; try clear hcz10_0; try clear hcz10_1; try clear hcz14_0; try clear hcz14_1; try clear hcz16_0; try clear hcz16_1; try clear hcz20_0; try clear hcz20_1; try clear hfz10_0; try clear hfz10_1; try clear hfz14_0; try clear hfz14_1; try clear hfz16_0; try clear hfz16_1; try clear hfz20_0; try clear hfz20_1; try clear p2
     obtain ⟨x7_2, x181000_2, x181001_2, x184000_2, x184001_2, rfl, HA, HK2, BK179, BK180, BK183, HB⟩ := hrel
     cases gk with
     | zero => exact absurd HA.out (by simp [spec_DancedFrom.l0])
     | succ k2 =>
      have H := HA.out
      clear HA
      simp only [spec_DancedFrom.l0] at H
      by_cases c21 : x7_2 < (a1.size : Int)
      ·rw [if_pos c21] at H
       have c21b0 : decide (x7_2 < (a1.size : Int)) = true := decide_eq_true c21
       clear c21
       obtain ⟨c22, H⟩ := sqI H
       have c22b0 : decide (0 ≤ x7_2) = true := decide_eq_true c22
       clear c22
       obtain ⟨⟨t184, t185, t186⟩, A24, H⟩ := sqD H
       try dsimp only at H
       by_cases c25 : t186 = true
       ·subst c25
        rw [if_pos rfl] at H
        have H' := Aside0.mk H
        clear H
        try go_wp2
        replace BK179 := Aside0.mk (blk_drew BK179.out)
        replace BK180 := Aside0.mk (blk_drew BK180.out)
        replace BK183 := Aside0.mk (blk_drew BK183.out)
        replace HB := Aside0.mk (below_drew1 HB.out)
        have p23 : 0 ≤ (x7_2 : Int) := of_decide_eq_true Z7
        have q23 : x7_2 < (a1.size : Int) := of_decide_eq_true Z7
        have hx23 := bt_at a1 x7_2
        replace p23 := eq_true p23
        replace q23 := eq_true q23
        refine start_ (n := 11) (S := fun w' => w'.cell? ⟨gb183, 0, none⟩ = some (.int .i64 x184000_2) ∧ w'.cell? ⟨gb183, 1, none⟩ = some (.int .i64 x184001_2)) (ds := []) #[false, false, false, false, false, false, false, false, false, false, false] (by kernel_rfl) rfl rfl ⟨(blk_cell BK183.out 0).trans rfl, (blk_cell BK183.out 1).trans rfl⟩ (fun hHeld => ?_); refine with_tabW spec_DancedFrom.tab7 spec_DancedFrom.bits7 (fun HT_ HW_ => ?_)
        generalize wr.drew = w26 at BK179 BK180 BK183 HB hHeld ⊢
        refine sqP (i := 1) (N := some 28) (h := ?_)
        refine sqP (i := 2) (N := some 29) (h := ?_)
        refine take_ (i := 0) (N := some 27) (v := ?_) (a' := ?_) #[true, true, true, false, false, false, false, false, false, false, false] rfl rfl (take_ofW HT_.out HW_.out (by kernel_rfl)) (fun _ _ _ h => h) (Or.inl ⟨by rfl, ?_⟩) hHeld ?_ ?_
        rotate_left
        ·rintro w' ⟨s0, s1⟩
         go_simp
         with_reducible rfl
        rotate_left
        ·simp only [Act.put, List.setIfInBounds_toArray, List.set_cons_zero, List.set_cons_succ, i64_w, i32_w]
         rfl
        refine take_ (i := 3) (N := some 30) (v := ?_) (a' := ?_) #[true, true, true, true, false, false, false, false, false, false, false] rfl rfl (take_ofW HT_.out HW_.out (by kernel_rfl)) (fun _ _ _ h => h) (Or.inl ⟨by rfl, ?_⟩) hHeld ?_ ?_
        rotate_left
        ·rintro w' ⟨s0, s1⟩
         go_simp
         with_reducible rfl
        rotate_left
        ·simp only [Act.put, List.setIfInBounds_toArray, List.set_cons_zero, List.set_cons_succ, i64_w, i32_w]
         rfl
        refine join_ (σ := Nat) 2 #[true, true, true, true, true, true, true, true, true, false, false] (fun s_ => [(31, .tuple #[.agg #[.int .i64 t184, .int .i64 t185], .bool true]), (8, .pointer (some ⟨s_, 0, none⟩)), (26, .tuple #[.agg #[.int .i64 t184, .int .i64 t185], .bool true]), (32, .agg #[.int .i64 t184, .int .i64 t185]), (33, .bool true)]) (fun s_ w' => (w'.cell? ⟨gb183, 0, none⟩ = some (.int .i64 x184000_2) ∧ w'.cell? ⟨gb183, 1, none⟩ = some (.int .i64 x184001_2)) ∧ (w'.heap[gb179]? = some (.cells #[.int .i64 a0_0, .int .i64 a0_1] 31 (0, 0))) ∧ (w'.heap[gb180]? = some (.cells #[.int .i64 x181000_2, .int .i64 x181001_2] 31 (0, 0))) ∧ (w'.heap[gb183]? = some (.cells #[.int .i64 x184000_2, .int .i64 x184001_2] 31 (0, 0))) ∧ (w'.heap[s_]? = some (.cells #[.int .i64 0, .int .i64 0] 31 (0, 0))) ∧ (w.heap.size ≤ s_) ∧ (w.heap.size ≤ s_) ∧ (gb179 ≠ s_) ∧ (s_ ≠ gb179) ∧ (gb180 ≠ s_) ∧ (s_ ≠ gb180) ∧ (gb183 ≠ s_) ∧ (s_ ≠ gb183) ∧ (Below w.heap.size w w')) ?_ ?_
        rotate_left
        ·intro hCont
         refine two_ (i := 4) (j := 8) (Ni := some 31) (Nj := some 8) #[true, true, true, true, true, false, false, false, false, false, false] #[true, true, true, true, false, false, false, false, true, false, false] rfl rfl rfl rfl (two_of HT_.out (by kernel_rfl)) (by decide) (by decide) (fun K hK => ?_) (fun K hK => ?_)
         ·skip
          refine goes_ Tryz.func135 (by kernel_rfl) rfl #[.agg #[.int .i64 x184000_2, .int .i64 x184001_2], .int .u8 (bt a1 x7_2)] (by rfl) rfl rfl sqA ?_
          with_reducible refine (spec_l2Move.calls k2 x184000_2 x184001_2 (bt a1 x7_2) t184 t185 true _ A24.out).mono ?_
          rintro e w27 ⟨rfl, hb⟩
          refine ⟨_, rfl, ?_⟩
          replace BK179 := sqT BK179 hb
          replace BK180 := sqT BK180 hb
          replace BK183 := sqT BK183 hb
          replace HB := sqS (sqB3 HB GE179 GE180 GE183) hb
          (try clear hb)
          (try clear hb2)
          (try clear hk)
          (try clear hi)
          refine hK.out _ _ ⟨(blk_cell BK183.out 0).trans rfl, (blk_cell BK183.out 1).trans rfl⟩ (fun hHeld => ?_)
          clear hK K
          refine sqN (some 31) ?_
          refine sqP (i := 5) (N := some 26) (h := ?_)
          refine sqP (i := 6) (N := some 32) (h := ?_)
          refine sqP (i := 7) (N := some 33) (h := ?_)
          refine one_ (i := 8) (N := some 8) #[true, true, true, true, true, true, true, true, true, false, false] rfl rfl (one_of HT_.out (by kernel_rfl)) (by decide) (fun K hK => ?_)
          refine box_step ?hg (N := 8) ?hd (cs := #[.int .i64 0, .int .i64 0]) (t := 31) ?hr ?_; (case hd => rfl); (case hg => rfl); (case hr => exact Z8)
          intro gb187 hg w28 hbox hb
          have BK187 := Aside0.mk (hbox)
          have GW187 := Aside0.mk ((sqG hg (sqB3 HB GE179 GE180 GE183)))
          have GE187 := Aside0.mk ((sqG hg (sqB3 HB GE179 GE180 GE183)))
          replace HB := sqS (sqB3 HB GE179 GE180 GE183) hb
          have NB179_187 := Aside0.mk ((Z50 BK179 : gb179 ≠ gb187))
          have NB187_179 := Aside0.mk ((Z51 BK179 : gb187 ≠ gb179))
          replace BK179 := sqT BK179 hb
          have NB180_187 := Aside0.mk ((Z50 BK180 : gb180 ≠ gb187))
          have NB187_180 := Aside0.mk ((Z51 BK180 : gb187 ≠ gb180))
          replace BK180 := sqT BK180 hb
          have NB183_187 := Aside0.mk ((Z50 BK183 : gb183 ≠ gb187))
          have NB187_183 := Aside0.mk ((Z51 BK183 : gb187 ≠ gb183))
          replace BK183 := sqT BK183 hb
          clear hb hbox hg
          refine hK.out _ _ ⟨(blk_cell BK183.out 0).trans rfl, (blk_cell BK183.out 1).trans rfl⟩ (fun hHeld => ?_)
          clear hK K
          refine sqN (some 8) ?_
          exact norm_ Z33 (hCont (gb187) _ ⟨hHeld, (sqK BK179), (sqK BK180), (sqK BK183), (sqK BK187), GW187.out, GE187.out, NB179_187.out, NB187_179.out, NB180_187.out, NB187_180.out, NB183_187.out, NB187_183.out, (sqB4 HB GE179 GE180 GE183 GE187)⟩)
         ·skip
          refine box_step ?hg (N := 8) ?hd (cs := #[.int .i64 0, .int .i64 0]) (t := 31) ?hr ?_; (case hd => rfl); (case hg => rfl); (case hr => exact Z8)
          intro gb187 hg w27 hbox hb
          have BK187 := Aside0.mk (hbox)
          have GW187 := Aside0.mk ((sqG hg (sqB3 HB GE179 GE180 GE183)))
          have GE187 := Aside0.mk ((sqG hg (sqB3 HB GE179 GE180 GE183)))
          replace HB := sqS (sqB3 HB GE179 GE180 GE183) hb
          have NB179_187 := Aside0.mk ((Z50 BK179 : gb179 ≠ gb187))
          have NB187_179 := Aside0.mk ((Z51 BK179 : gb187 ≠ gb179))
          replace BK179 := sqT BK179 hb
          have NB180_187 := Aside0.mk ((Z50 BK180 : gb180 ≠ gb187))
          have NB187_180 := Aside0.mk ((Z51 BK180 : gb187 ≠ gb180))
          replace BK180 := sqT BK180 hb
          have NB183_187 := Aside0.mk ((Z50 BK183 : gb183 ≠ gb187))
          have NB187_183 := Aside0.mk ((Z51 BK183 : gb187 ≠ gb183))
          replace BK183 := sqT BK183 hb
          clear hb hbox hg
          refine hK.out _ _ ⟨(blk_cell BK183.out 0).trans rfl, (blk_cell BK183.out 1).trans rfl⟩ (fun hHeld => ?_)
          clear hK K
          refine sqN (some 8) ?_
          refine one_ (i := 4) (N := some 31) #[true, true, true, true, true, false, false, false, true, false, false] rfl rfl (one_of HT_.out (by kernel_rfl)) (by decide) (fun K hK => ?_)
          refine goes_ Tryz.func135 (by kernel_rfl) rfl #[.agg #[.int .i64 x184000_2, .int .i64 x184001_2], .int .u8 (bt a1 x7_2)] (by rfl) rfl rfl sqA ?_
          with_reducible refine (spec_l2Move.calls k2 x184000_2 x184001_2 (bt a1 x7_2) t184 t185 true _ A24.out).mono ?_
          rintro e w28 ⟨rfl, hb⟩
          refine ⟨_, rfl, ?_⟩
          replace BK179 := sqT BK179 hb
          replace BK180 := sqT BK180 hb
          replace BK183 := sqT BK183 hb
          replace BK187 := sqT BK187 hb
          replace HB := sqS (sqB4 HB GE179 GE180 GE183 GE187) hb
          (try clear hb)
          (try clear hb2)
          (try clear hk)
          (try clear hi)
          refine hK.out _ _ ⟨(blk_cell BK183.out 0).trans rfl, (blk_cell BK183.out 1).trans rfl⟩ (fun hHeld => ?_)
          clear hK K
          refine sqN (some 31) ?_
          refine sqP (i := 5) (N := some 26) (h := ?_)
          refine sqP (i := 6) (N := some 32) (h := ?_)
          refine sqP (i := 7) (N := some 33) (h := ?_)
          exact norm_ Z33 (hCont (gb187) _ ⟨hHeld, (sqK BK179), (sqK BK180), (sqK BK183), (sqK BK187), GW187.out, GE187.out, NB179_187.out, NB187_179.out, NB180_187.out, NB187_180.out, NB183_187.out, NB187_183.out, (sqB4 HB GE179 GE180 GE183 GE187)⟩)
        rintro gb187 w29 ⟨hS_, h0_, h1_, h2_, h3_, h4_, h5_, h6_, h7_, h8_, h9_, h10_, h11_, h12_⟩
        have n0_ : Aside0 (w29.heap[gb179]? = some (.cells #[.int .i64 a0_0, .int .i64 a0_1] 31 (0, 0))) := ⟨h0_⟩
        have n1_ : Aside0 (w29.heap[gb180]? = some (.cells #[.int .i64 x181000_2, .int .i64 x181001_2] 31 (0, 0))) := ⟨h1_⟩
        have n2_ : Aside0 (w29.heap[gb183]? = some (.cells #[.int .i64 x184000_2, .int .i64 x184001_2] 31 (0, 0))) := ⟨h2_⟩
        have n3_ : Aside0 (w29.heap[gb187]? = some (.cells #[.int .i64 0, .int .i64 0] 31 (0, 0))) := ⟨h3_⟩
        have n4_ : Aside0 (w.heap.size ≤ gb187) := ⟨h4_⟩
        have n5_ : Aside0 (w.heap.size ≤ gb187) := ⟨h5_⟩
        have n6_ : Aside0 (gb179 ≠ gb187) := ⟨h6_⟩
        have n7_ : Aside0 (gb187 ≠ gb179) := ⟨h7_⟩
        have n8_ : Aside0 (gb180 ≠ gb187) := ⟨h8_⟩
        have n9_ : Aside0 (gb187 ≠ gb180) := ⟨h9_⟩
        have n10_ : Aside0 (gb183 ≠ gb187) := ⟨h10_⟩
        have n11_ : Aside0 (gb187 ≠ gb183) := ⟨h11_⟩
        have n12_ : Aside0 (Below w.heap.size w w29) := ⟨h12_⟩
        clear BK179
        clear BK180
        clear BK183
        clear HB
        clear h0_ h1_ h2_ h3_ h4_ h5_ h6_ h7_ h8_ h9_ h10_ h11_ h12_
        have BK179 := n0_
        have BK180 := n1_
        have BK183 := n2_
        have BK187 := n3_
        have GW187 := n4_
        have GE187 := n5_
        have NB179_187 := n6_
        have NB187_179 := n7_
        have NB180_187 := n8_
        have NB187_180 := n9_
        have NB183_187 := n10_
        have NB187_183 := n11_
        have HB := n12_
        clear n0_ n1_ n2_ n3_ n4_ n5_ n6_ n7_ n8_ n9_ n10_ n11_ n12_
        have hHeld : w29.cell? ⟨gb183, 0, none⟩ = some (.int .i64 x184000_2) ∧ w29.cell? ⟨gb183, 1, none⟩ = some (.int .i64 x184001_2) := hS_
        refine norm_ (a' := ?_) ?_ ?_
        rotate_left
        ·simp only [putAll, Act.put, List.setIfInBounds_toArray, List.set_cons_zero, List.set_cons_succ]
         rfl
        refine one_ (i := 9) (N := none) #[true, true, true, true, true, true, true, true, true, true, false] rfl rfl (one_of HT_.out (by kernel_rfl)) (by decide) (fun K hK => ?_)
        have hs30 : w29.cell? ⟨gb187, 0, none⟩ = some (.int .i64 0) := (blk_cell BK187.out 0).trans rfl
        have hfs30 := blk_frozen BK187.out 0
        have hns30_0 := NB179_187.out
        have hns30_1 := NB180_187.out
        have hns30_2 := NB183_187.out
        have hms30_0 := NB187_179.out
        have hms30_1 := NB187_180.out
        have hms30_2 := NB187_183.out
        have hs31 : w29.cell? ⟨gb187, 1, none⟩ = some (.int .i64 0) := (blk_cell BK187.out 1).trans rfl
        have hfs31 := blk_frozen BK187.out 1
        have hns31_0 := NB179_187.out
        have hns31_1 := NB180_187.out
        have hns31_2 := NB183_187.out
        have hms31_0 := NB187_179.out
        have hms31_1 := NB187_180.out
        have hms31_2 := NB187_183.out
        refine skip_ (w1 := ?_) (by rfl) rfl ?_ ?_
        rotate_left
        ·go_simp
         rfl
        refine hK.out _ _ ⟨((cell_far (p := ⟨gb187, _, none⟩) NB183_187.out _).trans (((cell_far (p := ⟨gb187, _, none⟩) NB183_187.out _).trans (hHeld.1)))), ((cell_far (p := ⟨gb187, _, none⟩) NB183_187.out _).trans (((cell_far (p := ⟨gb187, _, none⟩) NB183_187.out _).trans (hHeld.2))))⟩ (fun hHeld => ?_)
        clear hK K
        refine sqP (i := 10) (N := some 9) (h := ?_)
        refine done_ (done_of HT_.out (by kernel_rfl)) ?_
        have hnb32 := NB187_179.out
        have hnc32 := NB179_187.out
        have hnb33 := NB187_180.out
        have hnc33 := NB180_187.out
        have hnb34 := NB187_183.out
        have hnc34 := NB183_187.out
        obtain ⟨hcz35_0, hcz35_1, hfz35_0, hfz35_1⟩ := sqY2 BK187
        have hnb36 := NB183_179.out
        have hnc36 := NB179_183.out
        have hnb37 := NB183_180.out
        have hnc37 := NB180_183.out
        obtain ⟨hcz38_0, hcz38_1, hfz38_0, hfz38_1⟩ := sqY2 BK183
        try go_wp2
        go_roundg k2
        case measure => have := HJ2.out; have := HK2.out; omega
        case rel => exact ⟨(wrap64 (x7_2 + 1)), (x181000_2), (x181001_2), (t184), (t185), Z2, H', ⟨Z48 HK2⟩, ⟨by refine sqFar ?_ NB179_183; refine sqFar ?_ NB179_183; refine sqFar ?_ NB179_187; refine sqFar ?_ NB179_187; exact sqK BK179⟩, ⟨by refine sqFar ?_ NB180_183; refine sqFar ?_ NB180_183; refine sqFar ?_ NB180_187; refine sqFar ?_ NB180_187; exact sqK BK180⟩, ⟨by refine sqPut (cs := #[.int .i64 t184, .int .i64 x184001_2]) ?_ 1; refine sqPut (cs := #[.int .i64 x184000_2, .int .i64 x184001_2]) ?_ 0; refine sqFar ?_ NB183_187; refine sqFar ?_ NB183_187; exact sqK BK183⟩, ⟨sqB4 HB GE179 GE180 GE183 GE187⟩⟩
       ·replace c25 := Bool.eq_false_iff.mpr c25
        subst c25
        rw [if_neg sqF] at H
        simp only [Option.some.injEq, Prod.mk.injEq] at H
        obtain ⟨rfl, rfl, rfl⟩ := H
        try go_wp2
        replace BK179 := Aside0.mk (blk_drew BK179.out)
        replace BK180 := Aside0.mk (blk_drew BK180.out)
        replace BK183 := Aside0.mk (blk_drew BK183.out)
        replace HB := Aside0.mk (below_drew1 HB.out)
        have p23 : 0 ≤ (x7_2 : Int) := of_decide_eq_true Z7
        have q23 : x7_2 < (a1.size : Int) := of_decide_eq_true Z7
        have hx23 := bt_at a1 x7_2
        replace p23 := eq_true p23
        replace q23 := eq_true q23
        refine start_ (n := 11) (S := fun w' => w'.cell? ⟨gb183, 0, none⟩ = some (.int .i64 x184000_2) ∧ w'.cell? ⟨gb183, 1, none⟩ = some (.int .i64 x184001_2)) (ds := []) #[false, false, false, false, false, false, false, false, false, false, false] (by kernel_rfl) rfl rfl ⟨(blk_cell BK183.out 0).trans rfl, (blk_cell BK183.out 1).trans rfl⟩ (fun hHeld => ?_); refine with_tabW spec_DancedFrom.tab7 spec_DancedFrom.bits7 (fun HT_ HW_ => ?_)
        generalize wr.drew = w39 at BK179 BK180 BK183 HB hHeld ⊢
        refine sqP (i := 1) (N := some 28) (h := ?_)
        refine sqP (i := 2) (N := some 29) (h := ?_)
        refine take_ (i := 0) (N := some 27) (v := ?_) (a' := ?_) #[true, true, true, false, false, false, false, false, false, false, false] rfl rfl (take_ofW HT_.out HW_.out (by kernel_rfl)) (fun _ _ _ h => h) (Or.inl ⟨by rfl, ?_⟩) hHeld ?_ ?_
        rotate_left
        ·rintro w' ⟨s0, s1⟩
         go_simp
         with_reducible rfl
        rotate_left
        ·simp only [Act.put, List.setIfInBounds_toArray, List.set_cons_zero, List.set_cons_succ, i64_w, i32_w]
         rfl
        refine take_ (i := 3) (N := some 30) (v := ?_) (a' := ?_) #[true, true, true, true, false, false, false, false, false, false, false] rfl rfl (take_ofW HT_.out HW_.out (by kernel_rfl)) (fun _ _ _ h => h) (Or.inl ⟨by rfl, ?_⟩) hHeld ?_ ?_
        rotate_left
        ·rintro w' ⟨s0, s1⟩
         go_simp
         with_reducible rfl
        rotate_left
        ·simp only [Act.put, List.setIfInBounds_toArray, List.set_cons_zero, List.set_cons_succ, i64_w, i32_w]
         rfl
        refine join_ (σ := Nat) 2 #[true, true, true, true, true, true, true, true, true, false, false] (fun s_ => [(31, .tuple #[.agg #[.int .i64 t184, .int .i64 t185], .bool false]), (8, .pointer (some ⟨s_, 0, none⟩)), (26, .tuple #[.agg #[.int .i64 t184, .int .i64 t185], .bool false]), (32, .agg #[.int .i64 t184, .int .i64 t185]), (33, .bool false)]) (fun s_ w' => (w'.cell? ⟨gb183, 0, none⟩ = some (.int .i64 x184000_2) ∧ w'.cell? ⟨gb183, 1, none⟩ = some (.int .i64 x184001_2)) ∧ (w'.heap[gb179]? = some (.cells #[.int .i64 a0_0, .int .i64 a0_1] 31 (0, 0))) ∧ (w'.heap[gb180]? = some (.cells #[.int .i64 x181000_2, .int .i64 x181001_2] 31 (0, 0))) ∧ (w'.heap[gb183]? = some (.cells #[.int .i64 x184000_2, .int .i64 x184001_2] 31 (0, 0))) ∧ (w'.heap[s_]? = some (.cells #[.int .i64 0, .int .i64 0] 31 (0, 0))) ∧ (w.heap.size ≤ s_) ∧ (w.heap.size ≤ s_) ∧ (gb179 ≠ s_) ∧ (s_ ≠ gb179) ∧ (gb180 ≠ s_) ∧ (s_ ≠ gb180) ∧ (gb183 ≠ s_) ∧ (s_ ≠ gb183) ∧ (Below w.heap.size w w')) ?_ ?_
        rotate_left
        ·intro hCont
         refine two_ (i := 4) (j := 8) (Ni := some 31) (Nj := some 8) #[true, true, true, true, true, false, false, false, false, false, false] #[true, true, true, true, false, false, false, false, true, false, false] rfl rfl rfl rfl (two_of HT_.out (by kernel_rfl)) (by decide) (by decide) (fun K hK => ?_) (fun K hK => ?_)
         ·skip
          refine goes_ Tryz.func135 (by kernel_rfl) rfl #[.agg #[.int .i64 x184000_2, .int .i64 x184001_2], .int .u8 (bt a1 x7_2)] (by rfl) rfl rfl sqA ?_
          with_reducible refine (spec_l2Move.calls k2 x184000_2 x184001_2 (bt a1 x7_2) t184 t185 false _ A24.out).mono ?_
          rintro e w40 ⟨rfl, hb⟩
          refine ⟨_, rfl, ?_⟩
          replace BK179 := sqT BK179 hb
          replace BK180 := sqT BK180 hb
          replace BK183 := sqT BK183 hb
          replace HB := sqS (sqB3 HB GE179 GE180 GE183) hb
          (try clear hb)
          (try clear hb2)
          (try clear hk)
          (try clear hi)
          refine hK.out _ _ ⟨(blk_cell BK183.out 0).trans rfl, (blk_cell BK183.out 1).trans rfl⟩ (fun hHeld => ?_)
          clear hK K
          refine sqN (some 31) ?_
          refine sqP (i := 5) (N := some 26) (h := ?_)
          refine sqP (i := 6) (N := some 32) (h := ?_)
          refine sqP (i := 7) (N := some 33) (h := ?_)
          refine one_ (i := 8) (N := some 8) #[true, true, true, true, true, true, true, true, true, false, false] rfl rfl (one_of HT_.out (by kernel_rfl)) (by decide) (fun K hK => ?_)
          refine box_step ?hg (N := 8) ?hd (cs := #[.int .i64 0, .int .i64 0]) (t := 31) ?hr ?_; (case hd => rfl); (case hg => rfl); (case hr => exact Z8)
          intro gb187 hg w41 hbox hb
          have BK187 := Aside0.mk (hbox)
          have GW187 := Aside0.mk ((sqG hg (sqB3 HB GE179 GE180 GE183)))
          have GE187 := Aside0.mk ((sqG hg (sqB3 HB GE179 GE180 GE183)))
          replace HB := sqS (sqB3 HB GE179 GE180 GE183) hb
          have NB179_187 := Aside0.mk ((Z50 BK179 : gb179 ≠ gb187))
          have NB187_179 := Aside0.mk ((Z51 BK179 : gb187 ≠ gb179))
          replace BK179 := sqT BK179 hb
          have NB180_187 := Aside0.mk ((Z50 BK180 : gb180 ≠ gb187))
          have NB187_180 := Aside0.mk ((Z51 BK180 : gb187 ≠ gb180))
          replace BK180 := sqT BK180 hb
          have NB183_187 := Aside0.mk ((Z50 BK183 : gb183 ≠ gb187))
          have NB187_183 := Aside0.mk ((Z51 BK183 : gb187 ≠ gb183))
          replace BK183 := sqT BK183 hb
          clear hb hbox hg
          refine hK.out _ _ ⟨(blk_cell BK183.out 0).trans rfl, (blk_cell BK183.out 1).trans rfl⟩ (fun hHeld => ?_)
          clear hK K
          refine sqN (some 8) ?_
          exact norm_ Z33 (hCont (gb187) _ ⟨hHeld, (sqK BK179), (sqK BK180), (sqK BK183), (sqK BK187), GW187.out, GE187.out, NB179_187.out, NB187_179.out, NB180_187.out, NB187_180.out, NB183_187.out, NB187_183.out, (sqB4 HB GE179 GE180 GE183 GE187)⟩)
         ·skip
          refine box_step ?hg (N := 8) ?hd (cs := #[.int .i64 0, .int .i64 0]) (t := 31) ?hr ?_; (case hd => rfl); (case hg => rfl); (case hr => exact Z8)
          intro gb187 hg w40 hbox hb
          have BK187 := Aside0.mk (hbox)
          have GW187 := Aside0.mk ((sqG hg (sqB3 HB GE179 GE180 GE183)))
          have GE187 := Aside0.mk ((sqG hg (sqB3 HB GE179 GE180 GE183)))
          replace HB := sqS (sqB3 HB GE179 GE180 GE183) hb
          have NB179_187 := Aside0.mk ((Z50 BK179 : gb179 ≠ gb187))
          have NB187_179 := Aside0.mk ((Z51 BK179 : gb187 ≠ gb179))
          replace BK179 := sqT BK179 hb
          have NB180_187 := Aside0.mk ((Z50 BK180 : gb180 ≠ gb187))
          have NB187_180 := Aside0.mk ((Z51 BK180 : gb187 ≠ gb180))
          replace BK180 := sqT BK180 hb
          have NB183_187 := Aside0.mk ((Z50 BK183 : gb183 ≠ gb187))
          have NB187_183 := Aside0.mk ((Z51 BK183 : gb187 ≠ gb183))
          replace BK183 := sqT BK183 hb
          clear hb hbox hg
          refine hK.out _ _ ⟨(blk_cell BK183.out 0).trans rfl, (blk_cell BK183.out 1).trans rfl⟩ (fun hHeld => ?_)
          clear hK K
          refine sqN (some 8) ?_
          refine one_ (i := 4) (N := some 31) #[true, true, true, true, true, false, false, false, true, false, false] rfl rfl (one_of HT_.out (by kernel_rfl)) (by decide) (fun K hK => ?_)
          refine goes_ Tryz.func135 (by kernel_rfl) rfl #[.agg #[.int .i64 x184000_2, .int .i64 x184001_2], .int .u8 (bt a1 x7_2)] (by rfl) rfl rfl sqA ?_
          with_reducible refine (spec_l2Move.calls k2 x184000_2 x184001_2 (bt a1 x7_2) t184 t185 false _ A24.out).mono ?_
          rintro e w41 ⟨rfl, hb⟩
          refine ⟨_, rfl, ?_⟩
          replace BK179 := sqT BK179 hb
          replace BK180 := sqT BK180 hb
          replace BK183 := sqT BK183 hb
          replace BK187 := sqT BK187 hb
          replace HB := sqS (sqB4 HB GE179 GE180 GE183 GE187) hb
          (try clear hb)
          (try clear hb2)
          (try clear hk)
          (try clear hi)
          refine hK.out _ _ ⟨(blk_cell BK183.out 0).trans rfl, (blk_cell BK183.out 1).trans rfl⟩ (fun hHeld => ?_)
          clear hK K
          refine sqN (some 31) ?_
          refine sqP (i := 5) (N := some 26) (h := ?_)
          refine sqP (i := 6) (N := some 32) (h := ?_)
          refine sqP (i := 7) (N := some 33) (h := ?_)
          exact norm_ Z33 (hCont (gb187) _ ⟨hHeld, (sqK BK179), (sqK BK180), (sqK BK183), (sqK BK187), GW187.out, GE187.out, NB179_187.out, NB187_179.out, NB180_187.out, NB187_180.out, NB183_187.out, NB187_183.out, (sqB4 HB GE179 GE180 GE183 GE187)⟩)
        rintro gb187 w42 ⟨hS_, h0_, h1_, h2_, h3_, h4_, h5_, h6_, h7_, h8_, h9_, h10_, h11_, h12_⟩
        have n0_ : Aside0 (w42.heap[gb179]? = some (.cells #[.int .i64 a0_0, .int .i64 a0_1] 31 (0, 0))) := ⟨h0_⟩
        have n1_ : Aside0 (w42.heap[gb180]? = some (.cells #[.int .i64 x181000_2, .int .i64 x181001_2] 31 (0, 0))) := ⟨h1_⟩
        have n2_ : Aside0 (w42.heap[gb183]? = some (.cells #[.int .i64 x184000_2, .int .i64 x184001_2] 31 (0, 0))) := ⟨h2_⟩
        have n3_ : Aside0 (w42.heap[gb187]? = some (.cells #[.int .i64 0, .int .i64 0] 31 (0, 0))) := ⟨h3_⟩
        have n4_ : Aside0 (w.heap.size ≤ gb187) := ⟨h4_⟩
        have n5_ : Aside0 (w.heap.size ≤ gb187) := ⟨h5_⟩
        have n6_ : Aside0 (gb179 ≠ gb187) := ⟨h6_⟩
        have n7_ : Aside0 (gb187 ≠ gb179) := ⟨h7_⟩
        have n8_ : Aside0 (gb180 ≠ gb187) := ⟨h8_⟩
        have n9_ : Aside0 (gb187 ≠ gb180) := ⟨h9_⟩
        have n10_ : Aside0 (gb183 ≠ gb187) := ⟨h10_⟩
        have n11_ : Aside0 (gb187 ≠ gb183) := ⟨h11_⟩
        have n12_ : Aside0 (Below w.heap.size w w42) := ⟨h12_⟩
        clear BK179
        clear BK180
        clear BK183
        clear HB
        clear h0_ h1_ h2_ h3_ h4_ h5_ h6_ h7_ h8_ h9_ h10_ h11_ h12_
        have BK179 := n0_
        have BK180 := n1_
        have BK183 := n2_
        have BK187 := n3_
        have GW187 := n4_
        have GE187 := n5_
        have NB179_187 := n6_
        have NB187_179 := n7_
        have NB180_187 := n8_
        have NB187_180 := n9_
        have NB183_187 := n10_
        have NB187_183 := n11_
        have HB := n12_
        clear n0_ n1_ n2_ n3_ n4_ n5_ n6_ n7_ n8_ n9_ n10_ n11_ n12_
        have hHeld : w42.cell? ⟨gb183, 0, none⟩ = some (.int .i64 x184000_2) ∧ w42.cell? ⟨gb183, 1, none⟩ = some (.int .i64 x184001_2) := hS_
        refine norm_ (a' := ?_) ?_ ?_
        rotate_left
        ·simp only [putAll, Act.put, List.setIfInBounds_toArray, List.set_cons_zero, List.set_cons_succ]
         rfl
        refine one_ (i := 9) (N := none) #[true, true, true, true, true, true, true, true, true, true, false] rfl rfl (one_of HT_.out (by kernel_rfl)) (by decide) (fun K hK => ?_)
        have hs43 : w42.cell? ⟨gb187, 0, none⟩ = some (.int .i64 0) := (blk_cell BK187.out 0).trans rfl
        have hfs43 := blk_frozen BK187.out 0
        have hns43_0 := NB179_187.out
        have hns43_1 := NB180_187.out
        have hns43_2 := NB183_187.out
        have hms43_0 := NB187_179.out
        have hms43_1 := NB187_180.out
        have hms43_2 := NB187_183.out
        have hs44 : w42.cell? ⟨gb187, 1, none⟩ = some (.int .i64 0) := (blk_cell BK187.out 1).trans rfl
        have hfs44 := blk_frozen BK187.out 1
        have hns44_0 := NB179_187.out
        have hns44_1 := NB180_187.out
        have hns44_2 := NB183_187.out
        have hms44_0 := NB187_179.out
        have hms44_1 := NB187_180.out
        have hms44_2 := NB187_183.out
        refine skip_ (w1 := ?_) (by rfl) rfl ?_ ?_
        rotate_left
        ·go_simp
         rfl
        refine hK.out _ _ ⟨((cell_far (p := ⟨gb187, _, none⟩) NB183_187.out _).trans (((cell_far (p := ⟨gb187, _, none⟩) NB183_187.out _).trans (hHeld.1)))), ((cell_far (p := ⟨gb187, _, none⟩) NB183_187.out _).trans (((cell_far (p := ⟨gb187, _, none⟩) NB183_187.out _).trans (hHeld.2))))⟩ (fun hHeld => ?_)
        clear hK K
        refine sqP (i := 10) (N := some 9) (h := ?_)
        refine done_ (done_of HT_.out (by kernel_rfl)) ?_
        have hnb45 := NB180_179.out
        have hnc45 := NB179_180.out
        have hnb46 := NB180_183.out
        have hnc46 := NB183_180.out
        have hnb47 := NB180_187.out
        have hnc47 := NB187_180.out
        obtain ⟨hcz48_0, hcz48_1, hfz48_0, hfz48_1⟩ := sqY2 BK180
        try go_wp2
        refine bodyPost_ret (results_ct rfl _ _ gb180 31 #[.int .i64 0, .int .i64 0] (0, 0) _ rfl (by refine sqPut (cs := #[.int .i64 0, .int .i64 x181001_2]) ?_ 1; refine sqPut (cs := #[.int .i64 x181000_2, .int .i64 x181001_2]) ?_ 0; refine sqFar ?_ NB180_187; refine sqFar ?_ NB180_187; exact sqK BK180) Tryz.underlying31 rfl (by kernel_rfl)) rfl ?_
        exact ⟨Z15, sqB4 HB GE179 GE180 GE183 GE187⟩
      ·rw [if_neg c21] at H
       have c21b0 : decide (x7_2 < (a1.size : Int)) = false := decide_eq_false c21
       clear c21
       simp only [Option.some.injEq, Prod.mk.injEq] at H
       obtain ⟨rfl, rfl, rfl⟩ := H
       have hnb49 := NB183_179.out
       have hnc49 := NB179_183.out
       have hnb50 := NB183_180.out
       have hnc50 := NB180_183.out
       obtain ⟨hcz51_0, hcz51_1, hfz51_0, hfz51_1⟩ := sqY2 BK183
       have hnb52 := NB180_179.out
       have hnc52 := NB179_180.out
       obtain ⟨hcz53_0, hcz53_1, hfz53_0, hfz53_1⟩ := sqY2 BK180
       go_wp2
       refine bodyPost_ret (results_ct rfl _ _ gb180 31 #[.int .i64 x184000_2, .int .i64 x184001_2] (0, 0) _ rfl (by refine sqPut (cs := #[.int .i64 x184000_2, .int .i64 x181001_2]) ?_ 1; refine sqPut (cs := #[.int .i64 x181000_2, .int .i64 x181001_2]) ?_ 0; exact sqK BK180) Tryz.underlying31 rfl (by kernel_rfl)) rfl ?_
       exact ⟨Z15, sqB3 HB GE179 GE180 GE183⟩

end Go.Proofs.YtofmlbgfcohhoaaGreatDoor.PFnDeskRun
