/- Lean functions of the Go functions that the law FnExactDeskLine reaches, each with its contract: made by a program of this session. -/
import Derived.Test.YtofmlbgfcohhoaaGreatDoorPFnExactDeskLinex14
namespace Go.Proofs.YtofmlbgfcohhoaaGreatDoor.PFnExactDeskLine
open Go.RowKit Go.Proofs.YtofmlbgfcohhoaaGreatDoorW.PrintWords Go.Proofs.YtofmlbgfcohhoaaGreatDoorW.PrintLast Go.Proofs.YtofmlbgfcohhoaaGreatDoorW.PrintMore Go.Proofs.YtofmlbgfcohhoaaGreatDoor.Lib
attribute [local go_sem] max2_int min2_int max_two min_two max_three min_three max_four min_four   -- for this text's walks alone
set_option linter.unusedVariables false
set_option linter.unusedSimpArgs false

/-! ### spec_DancedFrom: function 106 -/
mutual
def spec_DancedFrom.j0 : Nat → ByteArray → Bool → Int → Int → Option (Int × Int × Bool)
 | 0, _, _, _, _ => none
 | k + 1, x1, x17, x450000, x450001 => if x17 = true then (some (0, 0, false)) else (spec_DancedFrom.l0 k x1 0 x450000 x450001)
def spec_DancedFrom.l0 : Nat → ByteArray → Int → Int → Int → Option (Int × Int × Bool)
 | 0, _, _, _, _ => none
 | k + 1, x1, x7, x454000, x454001 => if x7 < (x1.size : Int) then (if 0 ≤ x7 then ((spec_l2Move.f k x454000 x454001 (bt x1 x7)).bind fun bt454 => (if bt454.2.2 = true then (spec_DancedFrom.l0 k x1 (wrap64 (x7 + 1)) bt454.1 bt454.2.1) else (some (0, 0, false)))) else (none)) else (some (x454000, x454001, true))
end
def spec_DancedFrom.f (k : Nat) (a0_0 : Int) (a0_1 : Int) (a1 : ByteArray) : Option (Int × Int × Bool) := (spec_DanceOk.f k a1).bind fun t451 => (if t451 = true then ((spec_FractionOk.f k a0_0 a0_1).bind fun t452 => (spec_DancedFrom.j0 k a1 (!t452) a0_0 a0_1)) else (spec_DancedFrom.j0 k a1 true a0_0 a0_1))
abbrev spec_DancedFrom.M (k : Nat) : Prop := (∀ y0 y1 y2 y3, LeO (spec_DancedFrom.j0 k y0 y1 y2 y3) (spec_DancedFrom.j0 (k + 1) y0 y1 y2 y3)) ∧ (∀ y0 y1 y2 y3, LeO (spec_DancedFrom.l0 k y0 y1 y2 y3) (spec_DancedFrom.l0 (k + 1) y0 y1 y2 y3))
theorem spec_DancedFrom.mono_t : ∀ k, spec_DancedFrom.M k → spec_DancedFrom.M (k + 1) ∧ ∀ a0 a1 a2, LeO (spec_DancedFrom.f k a0 a1 a2) (spec_DancedFrom.f (k + 1) a0 a1 a2) := by
  rintro k ⟨ih0, ih1⟩
  refine ⟨⟨?_, ?_⟩, ?_⟩ <;> intros <;> (first | unfold spec_DancedFrom.j0 | unfold spec_DancedFrom.l0 | unfold spec_DancedFrom.f) <;> repeat' (with_reducible first | exact ih0 _ _ _ _ | exact ih1 _ _ _ _ | exact spec_DanceOk.mono _ _ | exact spec_FractionOk.mono _ _ _ | exact spec_l2Move.mono _ _ _ _ | exact LeO.refl _ | exact LeO.none _ | refine LeO.ite ?_ ?_ | refine LeO.bind ?_ fun _ => ?_)
theorem spec_DancedFrom.mono_l : ∀ k, spec_DancedFrom.M k
 | 0 => ⟨fun _ _ _ _ r h => by simp [spec_DancedFrom.j0] at h, fun _ _ _ _ r h => by simp [spec_DancedFrom.l0] at h⟩
 | k + 1 => (spec_DancedFrom.mono_t k (spec_DancedFrom.mono_l k)).1
theorem spec_DancedFrom.mono a0 a1 a2 k : LeO (spec_DancedFrom.f k a0 a1 a2) (spec_DancedFrom.f (k + 1) a0 a1 a2) := (spec_DancedFrom.mono_t k (spec_DancedFrom.mono_l k)).2 a0 a1 a2
def spec_DancedFrom.T7 : Bool × List (List Nat × List Nat) := (true, [([], []), ([], []), ([], []), ([1, 2], [1, 2]), ([0, 3], [0, 3]), ([4], [4]), ([5], [5]), ([5], [5]), ([], []), ([8, 6, 4, 0, 1, 2, 3, 4, 5, 6, 8], [6, 8]), ([7, 9, 0, 1, 2, 3, 4, 5, 6, 7, 8, 9], [7])])
def spec_DancedFrom.B7 : List Nat := [0, 0, 0, 6, 15, 31, 63, 63, 0, 383, 1023]
theorem spec_DancedFrom.tab7 : rtab .any (opsOf Tryz.f106 7) = spec_DancedFrom.T7 := by kernel_rfl
theorem spec_DancedFrom.bits7 : waitsOk spec_DancedFrom.T7.2 spec_DancedFrom.B7 = true := by kernel_rfl
set_option maxHeartbeats 8000000 in
set_option maxRecDepth 100000 in
theorem spec_DancedFrom.calls (k : Nat) (a0_0 : Int) (a0_1 : Int) (a1 : ByteArray) (r1 : Int) (r2 : Int) (r3 : Bool) (w : World) (h : spec_DancedFrom.f k a0_0 a0_1 a1 = some (r1, r2, r3)) :
  Calls Tryz.prog 106 #[.agg #[.int .i64 a0_0, .int .i64 a0_1], .string a1] w fun e w' => e = .returned (.tuple #[.agg #[.int .i64 r1, .int .i64 r2], .bool r3]) ∧ Below w.heap.size w w' := by
 have hu31 := Tryz.underlying31
 have HB := Aside0.mk (Below.refl w.heap.size w)
 unfold spec_DancedFrom.f at h
 have H := h
 clear h
 have HC3 := Aside0.mk H
 clear H
 go_enter Tryz.func106, Tryz.ntmps106
 go_upto_region 1 with (first | ((with_reducible refine gate_dst (N := 2) rfl ?_); refine sqBx w (sqB HB) (N := 2) (cs := #[.int .i64 a0_0, .int .i64 a0_1]) (t := 31) ?_; intro gb449 hg w4 BK449 GE449 HB hb; clear hb hg) | ((with_reducible refine gate_dst (N := 4) rfl ?_); refine sqBx w (sqB1 HB GE449) (N := 4) (cs := #[.int .i64 0, .int .i64 0]) (t := 31) ?_; intro gb450 hg w5 BK450 GE450 HB hb; obtain ⟨NB449_450, NB450_449⟩ := sqM hg BK449; replace BK449 := sqT BK449 hb; clear hb hg))
 (try simp only [Act.put, List.setIfInBounds_toArray, List.set_cons_zero, List.set_cons_succ])
 go_cut [17] (fun v17 wc => ∃ (kq : Nat) (x17_2 : Bool), v17 = .bool x17_2 ∧ Aside0 (spec_DancedFrom.j0 kq a1 x17_2 a0_0 a0_1 = some (r1, r2, r3)) ∧ Aside0 (kq ≤ k) ∧ Aside0 (wc.heap[gb449]? = some (.cells #[.int .i64 a0_0, .int .i64 a0_1] 31 (0, 0))) ∧ Aside0 (wc.heap[gb450]? = some (.cells #[.int .i64 0, .int .i64 0] 31 (0, 0))) ∧ Aside0 (Below w.heap.size w wc))
 case first =>
  have H := HC3.out
  clear HC3
  obtain ⟨t451, A6, H⟩ := sqD H
  by_cases c7 : t451 = true
  ·subst c7
   rw [if_pos rfl] at H
   obtain ⟨t452, A8, H⟩ := sqD H
   have H' := Aside0.mk H
   clear H
   go_wp2_with (first | ((with_reducible refine gate_callee (f := 134) rfl ?_); refine sqC (some 11) Tryz.func134 #[.string a1] ?_; (with_reducible refine (spec_DanceOk.calls k a1 true _ A6.out).mono ?_); rintro e w' ⟨rfl, ⟨nd, rfl⟩⟩; refine ⟨_, rfl, ?_⟩; have hnb9 := NB449_450.out; have hnc9 := NB450_449.out; obtain ⟨hcz10_0, hcz10_1, hfz10_0, hfz10_1⟩ := sqY2 BK449) | (go_at_call 77; (with_reducible refine (spec_FractionOk.calls k a0_0 a0_1 t452 _ A8.out).mono ?_); rintro e w11 ⟨rfl, hb⟩; replace BK449 := sqT BK449 hb; replace BK450 := sqT BK450 hb; replace HB := sqS (sqB2 HB GE449 GE450) hb; (try clear hb)))
   go_meet
   case rel => exact ⟨_, (!t452), Z2, H', ⟨Z12⟩, ⟨sqK BK449⟩, ⟨sqK BK450⟩, ⟨sqB2 HB GE449 GE450⟩⟩
  replace c7 := Bool.eq_false_iff.mpr c7
  subst c7
  rw [if_neg sqF] at H
  have H' := Aside0.mk H
  clear H
  go_wp2_with (first | ((with_reducible refine gate_callee (f := 134) rfl ?_); refine sqC (some 11) Tryz.func134 #[.string a1] ?_; (with_reducible refine (spec_DanceOk.calls k a1 false _ A6.out).mono ?_); rintro e w' ⟨rfl, ⟨nd, rfl⟩⟩; refine ⟨_, rfl, ?_⟩))
  go_meet
  case rel => exact ⟨_, (true), Z2, H', ⟨Z12⟩, ⟨sqK BK449⟩, ⟨sqK BK450⟩, ⟨sqB2 HB GE449 GE450⟩⟩
 case rest =>
  clear HC3
  obtain ⟨kq, x17_2, rfl, HA, HJ2, BK449, BK450, HB⟩ := hcut
  cases kq with
  | zero => exact absurd HA.out (by simp [spec_DancedFrom.j0])
  | succ kj2 =>
   have H := HA.out
   clear HA
   simp only [spec_DancedFrom.j0] at H
   by_cases c12 : x17_2 = true
   ·subst c12
    rw [if_pos rfl] at H
    obtain ⟨rfl, rfl, rfl⟩ := sqO3 H
    have hnb13 := NB450_449.out
    have hnc13 := NB449_450.out
    obtain ⟨hcz14_0, hcz14_1, hfz14_0, hfz14_1⟩ := sqY2 BK450
    go_wp2
    refine bodyPost_ret (results_ct rfl _ _ gb450 31 #[.int .i64 0, .int .i64 0] (0, 0) _ rfl (Z27 BK450) Tryz.underlying31 rfl (by kernel_rfl)) rfl ?_
    exact ⟨Z6, sqB2 HB GE449 GE450⟩
   replace c12 := Bool.eq_false_iff.mpr c12
   subst c12
   rw [if_neg sqF] at H
   have H' := Aside0.mk H
   clear H
   have hnb15 := NB449_450.out
   have hnc15 := NB450_449.out
   obtain ⟨hcz16_0, hcz16_1, hfz16_0, hfz16_1⟩ := sqY2 BK449
   go_wp2_with (first | ((with_reducible refine gate_dst (N := 6) rfl ?_); refine sqBx w (sqB2 HB GE449 GE450) (N := 6) (cs := #[.int .i64 0, .int .i64 0]) (t := 31) ?_; intro gb453 hg w17 BK453 GE453 HB hb; obtain ⟨NB449_453, NB453_449⟩ := sqM hg BK449; replace BK449 := sqT BK449 hb; obtain ⟨NB450_453, NB453_450⟩ := sqM hg BK450; replace BK450 := sqT BK450 hb; clear hb hg; have hnb18 := NB453_449.out; have hnc18 := NB449_453.out; have hnb19 := NB453_450.out; have hnc19 := NB450_453.out; obtain ⟨hcz20_0, hcz20_1, hfz20_0, hfz20_1⟩ := sqY2 BK453))
   go_loopg [7] kj2 (fun kq v7 w' => ∃ (x7_2 : Int) (x451000_2 : Int) (x451001_2 : Int) (x454000_2 : Int) (x454001_2 : Int), v7 = .int .i64 x7_2 ∧ Aside0 (spec_DancedFrom.l0 kq a1 x7_2 x454000_2 x454001_2 = some (r1, r2, r3)) ∧ Aside0 (kq ≤ kj2) ∧ Aside0 (w'.heap[gb449]? = some (.cells #[.int .i64 a0_0, .int .i64 a0_1] 31 (0, 0))) ∧ Aside0 (w'.heap[gb450]? = some (.cells #[.int .i64 x451000_2, .int .i64 x451001_2] 31 (0, 0))) ∧ Aside0 (w'.heap[gb453]? = some (.cells #[.int .i64 x454000_2, .int .i64 x454001_2] 31 (0, 0))) ∧ Aside0 (Below w.heap.size w w'))
   case atStart => exact ⟨(0), (0), (0), (a0_0), (a0_1), Z2, H', ⟨Nat.le_refl _⟩, ⟨Z10 NB449_453 BK449⟩, ⟨Z10 NB450_453 BK450⟩, ⟨Z5 BK453⟩, ⟨sqB3 HB GE449 GE450 GE453⟩⟩
   case round =>
    clear H'
    try clear c1; try clear p2; try clear c7; try clear c9; try clear c10; try clear c12; try clear hcz10_0; try clear hcz10_1; try clear hcz16_0; try clear hcz16_1; try clear hcz20_0; try clear hcz20_1; try clear hfz10_0; try clear hfz10_1; try clear hfz16_0; try clear hfz16_1; try clear hfz20_0; try clear hfz20_1; try clear p2
    obtain ⟨x7_2, x451000_2, x451001_2, x454000_2, x454001_2, rfl, HA, HK2, BK449, BK450, BK453, HB⟩ := hrel
    cases gk with
    | zero => exact absurd HA.out (by simp [spec_DancedFrom.l0])
    | succ k2 =>
     have H := HA.out
     clear HA
     simp only [spec_DancedFrom.l0] at H
     by_cases c21 : x7_2 < (a1.size : Int)
     ·rw [if_pos c21] at H
      have c21b0 : decide (x7_2 < (a1.size : Int)) = true := decide_eq_true c21
      clear c21
      obtain ⟨c22, H⟩ := sqI H
      have c22b0 : decide (0 ≤ x7_2) = true := decide_eq_true c22
      clear c22
      obtain ⟨⟨t454, t455, t456⟩, A24, H⟩ := sqD H
      try dsimp only at H
      by_cases c25 : t456 = true
      ·subst c25
       rw [if_pos rfl] at H
       have H' := Aside0.mk H
       clear H
       try go_wp2
       replace BK449 := Aside0.mk (blk_drew BK449.out)
       replace BK450 := Aside0.mk (blk_drew BK450.out)
       replace BK453 := Aside0.mk (blk_drew BK453.out)
       replace HB := Aside0.mk (below_drew1 HB.out)
       have p23 : 0 ≤ (x7_2 : Int) := of_decide_eq_true Z20
       have q23 : x7_2 < (a1.size : Int) := of_decide_eq_true Z20
       have hx23 := bt_at a1 x7_2
       replace p23 := eq_true p23
       replace q23 := eq_true q23
       refine start_ (n := 11) (S := fun w' => w'.cell? ⟨gb453, 0, none⟩ = some (.int .i64 x454000_2) ∧ w'.cell? ⟨gb453, 1, none⟩ = some (.int .i64 x454001_2)) (ds := []) #[false, false, false, false, false, false, false, false, false, false, false] (by kernel_rfl) rfl rfl ⟨(blk_cell BK453.out 0).trans rfl, (blk_cell BK453.out 1).trans rfl⟩ (fun hHeld => ?_); refine with_tabW spec_DancedFrom.tab7 spec_DancedFrom.bits7 (fun HT_ HW_ => ?_)
       generalize wr.drew = w26 at BK449 BK450 BK453 HB hHeld ⊢
       refine sqP (i := 1) (N := some 28) (h := ?_)
       refine sqP (i := 2) (N := some 29) (h := ?_)
       refine sqQ (i := 0) (N := some 27) hHeld (h := ?_)
       refine sqQ (i := 3) (N := some 30) hHeld (h := ?_)
       refine join_ (σ := Nat) 2 #[true, true, true, true, true, true, true, true, true, false, false] (fun s_ => [(31, .tuple #[.agg #[.int .i64 t454, .int .i64 t455], .bool true]), (8, .pointer (some ⟨s_, 0, none⟩)), (26, .tuple #[.agg #[.int .i64 t454, .int .i64 t455], .bool true]), (32, .agg #[.int .i64 t454, .int .i64 t455]), (33, .bool true)]) (fun s_ w' => (w'.cell? ⟨gb453, 0, none⟩ = some (.int .i64 x454000_2) ∧ w'.cell? ⟨gb453, 1, none⟩ = some (.int .i64 x454001_2)) ∧ (w'.heap[gb449]? = some (.cells #[.int .i64 a0_0, .int .i64 a0_1] 31 (0, 0))) ∧ (w'.heap[gb450]? = some (.cells #[.int .i64 x451000_2, .int .i64 x451001_2] 31 (0, 0))) ∧ (w'.heap[gb453]? = some (.cells #[.int .i64 x454000_2, .int .i64 x454001_2] 31 (0, 0))) ∧ (w'.heap[s_]? = some (.cells #[.int .i64 0, .int .i64 0] 31 (0, 0))) ∧ (w.heap.size ≤ s_) ∧ (w.heap.size ≤ s_) ∧ (gb449 ≠ s_) ∧ (s_ ≠ gb449) ∧ (gb450 ≠ s_) ∧ (s_ ≠ gb450) ∧ (gb453 ≠ s_) ∧ (s_ ≠ gb453) ∧ (Below w.heap.size w w')) ?_ ?_
       rotate_left
       ·intro hCont
        refine two_ (i := 4) (j := 8) (Ni := some 31) (Nj := some 8) #[true, true, true, true, true, false, false, false, false, false, false] #[true, true, true, true, false, false, false, false, true, false, false] rfl rfl rfl rfl (two_of HT_.out (by kernel_rfl)) (by decide) (by decide) (fun K hK => ?_) (fun K hK => ?_)
        ·skip
         refine goes_ Tryz.func135 (by kernel_rfl) rfl #[.agg #[.int .i64 x454000_2, .int .i64 x454001_2], .int .u8 (bt a1 x7_2)] (by rfl) rfl rfl sqA ?_
         with_reducible refine (spec_l2Move.calls k2 x454000_2 x454001_2 (bt a1 x7_2) t454 t455 true _ A24.out).mono ?_
         rintro e w27 ⟨rfl, hb⟩
         refine ⟨_, rfl, ?_⟩
         replace BK449 := sqT BK449 hb
         replace BK450 := sqT BK450 hb
         replace BK453 := sqT BK453 hb
         replace HB := sqS (sqB3 HB GE449 GE450 GE453) hb
         (try clear hb)
         (try clear hb2)
         (try clear hk)
         (try clear hi)
         refine hK.out _ _ ⟨(blk_cell BK453.out 0).trans rfl, (blk_cell BK453.out 1).trans rfl⟩ (fun hHeld => ?_)
         clear hK K
         refine sqN (some 31) ?_
         refine sqP (i := 5) (N := some 26) (h := ?_)
         refine sqP (i := 6) (N := some 32) (h := ?_)
         refine sqP (i := 7) (N := some 33) (h := ?_)
         refine one_ (i := 8) (N := some 8) #[true, true, true, true, true, true, true, true, true, false, false] rfl rfl (one_of HT_.out (by kernel_rfl)) (by decide) (fun K hK => ?_)
         refine box_step ?hg (N := 8) ?hd (cs := #[.int .i64 0, .int .i64 0]) (t := 31) ?hr ?_; (case hd => rfl); (case hg => rfl); (case hr => exact Z21)
         intro gb457 hg w28 hbox hb
         have BK457 := Aside0.mk (hbox)
         have GW457 := Aside0.mk ((sqG hg (sqB3 HB GE449 GE450 GE453)))
         have GE457 := Aside0.mk ((sqG hg (sqB3 HB GE449 GE450 GE453)))
         replace HB := sqS (sqB3 HB GE449 GE450 GE453) hb
         obtain ⟨NB449_457, NB457_449⟩ := sqM hg BK449
         replace BK449 := sqT BK449 hb
         obtain ⟨NB450_457, NB457_450⟩ := sqM hg BK450
         replace BK450 := sqT BK450 hb
         obtain ⟨NB453_457, NB457_453⟩ := sqM hg BK453
         replace BK453 := sqT BK453 hb
         clear hb hbox hg
         refine hK.out _ _ ⟨(blk_cell BK453.out 0).trans rfl, (blk_cell BK453.out 1).trans rfl⟩ (fun hHeld => ?_)
         clear hK K
         refine sqN (some 8) ?_
         exact norm_ Z32 (hCont (gb457) _ ⟨hHeld, (sqK BK449), (sqK BK450), (sqK BK453), (sqK BK457), GW457.out, GE457.out, NB449_457.out, NB457_449.out, NB450_457.out, NB457_450.out, NB453_457.out, NB457_453.out, (sqB4 HB GE449 GE450 GE453 GE457)⟩)
        ·skip
         refine box_step ?hg (N := 8) ?hd (cs := #[.int .i64 0, .int .i64 0]) (t := 31) ?hr ?_; (case hd => rfl); (case hg => rfl); (case hr => exact Z21)
         intro gb457 hg w27 hbox hb
         have BK457 := Aside0.mk (hbox)
         have GW457 := Aside0.mk ((sqG hg (sqB3 HB GE449 GE450 GE453)))
         have GE457 := Aside0.mk ((sqG hg (sqB3 HB GE449 GE450 GE453)))
         replace HB := sqS (sqB3 HB GE449 GE450 GE453) hb
         obtain ⟨NB449_457, NB457_449⟩ := sqM hg BK449
         replace BK449 := sqT BK449 hb
         obtain ⟨NB450_457, NB457_450⟩ := sqM hg BK450
         replace BK450 := sqT BK450 hb
         obtain ⟨NB453_457, NB457_453⟩ := sqM hg BK453
         replace BK453 := sqT BK453 hb
         clear hb hbox hg
         refine hK.out _ _ ⟨(blk_cell BK453.out 0).trans rfl, (blk_cell BK453.out 1).trans rfl⟩ (fun hHeld => ?_)
         clear hK K
         refine sqN (some 8) ?_
         refine one_ (i := 4) (N := some 31) #[true, true, true, true, true, false, false, false, true, false, false] rfl rfl (one_of HT_.out (by kernel_rfl)) (by decide) (fun K hK => ?_)
         refine goes_ Tryz.func135 (by kernel_rfl) rfl #[.agg #[.int .i64 x454000_2, .int .i64 x454001_2], .int .u8 (bt a1 x7_2)] (by rfl) rfl rfl sqA ?_
         with_reducible refine (spec_l2Move.calls k2 x454000_2 x454001_2 (bt a1 x7_2) t454 t455 true _ A24.out).mono ?_
         rintro e w28 ⟨rfl, hb⟩
         refine ⟨_, rfl, ?_⟩
         replace BK449 := sqT BK449 hb
         replace BK450 := sqT BK450 hb
         replace BK453 := sqT BK453 hb
         replace BK457 := sqT BK457 hb
         replace HB := sqS (sqB4 HB GE449 GE450 GE453 GE457) hb
         (try clear hb)
         (try clear hb2)
         (try clear hk)
         (try clear hi)
         refine hK.out _ _ ⟨(blk_cell BK453.out 0).trans rfl, (blk_cell BK453.out 1).trans rfl⟩ (fun hHeld => ?_)
         clear hK K
         refine sqN (some 31) ?_
         refine sqP (i := 5) (N := some 26) (h := ?_)
         refine sqP (i := 6) (N := some 32) (h := ?_)
         refine sqP (i := 7) (N := some 33) (h := ?_)
         exact norm_ Z32 (hCont (gb457) _ ⟨hHeld, (sqK BK449), (sqK BK450), (sqK BK453), (sqK BK457), GW457.out, GE457.out, NB449_457.out, NB457_449.out, NB450_457.out, NB457_450.out, NB453_457.out, NB457_453.out, (sqB4 HB GE449 GE450 GE453 GE457)⟩)
       rintro gb457 w29 ⟨hS_, h0_, h1_, h2_, h3_, h4_, h5_, h6_, h7_, h8_, h9_, h10_, h11_, h12_⟩
       replace BK449 := Aside0.mk h0_
       replace BK450 := Aside0.mk h1_
       replace BK453 := Aside0.mk h2_
       replace BK457 := Aside0.mk h3_
       replace GW457 := Aside0.mk h4_
       replace GE457 := Aside0.mk h5_
       replace NB449_457 := Aside0.mk h6_
       replace NB457_449 := Aside0.mk h7_
       replace NB450_457 := Aside0.mk h8_
       replace NB457_450 := Aside0.mk h9_
       replace NB453_457 := Aside0.mk h10_
       replace NB457_453 := Aside0.mk h11_
       replace HB := Aside0.mk h12_
       clear h0_ h1_ h2_ h3_ h4_ h5_ h6_ h7_ h8_ h9_ h10_ h11_ h12_
       have hHeld : w29.cell? ⟨gb453, 0, none⟩ = some (.int .i64 x454000_2) ∧ w29.cell? ⟨gb453, 1, none⟩ = some (.int .i64 x454001_2) := hS_
       refine norm_ (a' := ?_) ?_ ?_
       rotate_left
       ·simp only [putAll, Act.put, List.setIfInBounds_toArray, List.set_cons_zero, List.set_cons_succ]
        rfl
       refine one_ (i := 9) (N := none) #[true, true, true, true, true, true, true, true, true, true, false] rfl rfl (one_of HT_.out (by kernel_rfl)) (by decide) (fun K hK => ?_)
       have hs30 : w29.cell? ⟨gb457, 0, none⟩ = some (.int .i64 0) := (blk_cell BK457.out 0).trans rfl
       have hfs30 := blk_frozen BK457.out 0
       have hns30_0 := NB449_457.out
       have hns30_1 := NB450_457.out
       have hns30_2 := NB453_457.out
       have hms30_0 := NB457_449.out
       have hms30_1 := NB457_450.out
       have hms30_2 := NB457_453.out
       have hs31 : w29.cell? ⟨gb457, 1, none⟩ = some (.int .i64 0) := (blk_cell BK457.out 1).trans rfl
       have hfs31 := blk_frozen BK457.out 1
       refine skip_ (w1 := ?_) (by rfl) rfl ?_ ?_
       rotate_left
       ·go_simp
        rfl
       refine hK.out _ _ ⟨((cell_far (p := ⟨gb457, _, none⟩) NB453_457.out _).trans (((cell_far (p := ⟨gb457, _, none⟩) NB453_457.out _).trans (hHeld.1)))), ((cell_far (p := ⟨gb457, _, none⟩) NB453_457.out _).trans (((cell_far (p := ⟨gb457, _, none⟩) NB453_457.out _).trans (hHeld.2))))⟩ (fun hHeld => ?_)
       clear hK K
       refine sqP (i := 10) (N := some 9) (h := ?_)
       refine done_ (done_of HT_.out (by kernel_rfl)) ?_
       have hnb32 := NB457_449.out
       have hnc32 := NB449_457.out
       have hnb33 := NB457_450.out
       have hnc33 := NB450_457.out
       have hnb34 := NB457_453.out
       have hnc34 := NB453_457.out
       obtain ⟨hcz35_0, hcz35_1, hfz35_0, hfz35_1⟩ := sqY2 BK457
       have hnb36 := NB453_449.out
       have hnc36 := NB449_453.out
       have hnb37 := NB453_450.out
       have hnc37 := NB450_453.out
       obtain ⟨hcz38_0, hcz38_1, hfz38_0, hfz38_1⟩ := sqY2 BK453
       try go_wp2
       go_roundg k2
       case measure => have := HJ2.out; have := HK2.out; omega
       case rel => exact ⟨(wrap64 (x7_2 + 1)), (x451000_2), (x451001_2), (t454), (t455), Z2, H', ⟨by have := HJ2.out; have := HK2.out; omega⟩, ⟨by refine sqFar ?_ NB449_453; refine sqFar ?_ NB449_453; refine sqFar ?_ NB449_457; refine sqFar ?_ NB449_457; exact sqK BK449⟩, ⟨by refine sqFar ?_ NB450_453; refine sqFar ?_ NB450_453; refine sqFar ?_ NB450_457; refine sqFar ?_ NB450_457; exact sqK BK450⟩, ⟨by refine sqPut (cs := #[.int .i64 t454, .int .i64 x454001_2]) ?_ 1; refine sqPut (cs := #[.int .i64 x454000_2, .int .i64 x454001_2]) ?_ 0; refine sqFar ?_ NB453_457; refine sqFar ?_ NB453_457; exact sqK BK453⟩, ⟨sqB4 HB GE449 GE450 GE453 GE457⟩⟩
      replace c25 := Bool.eq_false_iff.mpr c25
      subst c25
      rw [if_neg sqF] at H
      obtain ⟨rfl, rfl, rfl⟩ := sqO3 H
      try go_wp2
      replace BK449 := Aside0.mk (blk_drew BK449.out)
      replace BK450 := Aside0.mk (blk_drew BK450.out)
      replace BK453 := Aside0.mk (blk_drew BK453.out)
      replace HB := Aside0.mk (below_drew1 HB.out)
      have p23 : 0 ≤ (x7_2 : Int) := of_decide_eq_true Z20
      have q23 : x7_2 < (a1.size : Int) := of_decide_eq_true Z20
      have hx23 := bt_at a1 x7_2
      replace p23 := eq_true p23
      replace q23 := eq_true q23
      refine start_ (n := 11) (S := fun w' => w'.cell? ⟨gb453, 0, none⟩ = some (.int .i64 x454000_2) ∧ w'.cell? ⟨gb453, 1, none⟩ = some (.int .i64 x454001_2)) (ds := []) #[false, false, false, false, false, false, false, false, false, false, false] (by kernel_rfl) rfl rfl ⟨(blk_cell BK453.out 0).trans rfl, (blk_cell BK453.out 1).trans rfl⟩ (fun hHeld => ?_); refine with_tabW spec_DancedFrom.tab7 spec_DancedFrom.bits7 (fun HT_ HW_ => ?_)
      generalize wr.drew = w39 at BK449 BK450 BK453 HB hHeld ⊢
      refine sqP (i := 1) (N := some 28) (h := ?_)
      refine sqP (i := 2) (N := some 29) (h := ?_)
      refine sqQ (i := 0) (N := some 27) hHeld (h := ?_)
      refine sqQ (i := 3) (N := some 30) hHeld (h := ?_)
      refine join_ (σ := Nat) 2 #[true, true, true, true, true, true, true, true, true, false, false] (fun s_ => [(31, .tuple #[.agg #[.int .i64 t454, .int .i64 t455], .bool false]), (8, .pointer (some ⟨s_, 0, none⟩)), (26, .tuple #[.agg #[.int .i64 t454, .int .i64 t455], .bool false]), (32, .agg #[.int .i64 t454, .int .i64 t455]), (33, .bool false)]) (fun s_ w' => (w'.cell? ⟨gb453, 0, none⟩ = some (.int .i64 x454000_2) ∧ w'.cell? ⟨gb453, 1, none⟩ = some (.int .i64 x454001_2)) ∧ (w'.heap[gb449]? = some (.cells #[.int .i64 a0_0, .int .i64 a0_1] 31 (0, 0))) ∧ (w'.heap[gb450]? = some (.cells #[.int .i64 x451000_2, .int .i64 x451001_2] 31 (0, 0))) ∧ (w'.heap[gb453]? = some (.cells #[.int .i64 x454000_2, .int .i64 x454001_2] 31 (0, 0))) ∧ (w'.heap[s_]? = some (.cells #[.int .i64 0, .int .i64 0] 31 (0, 0))) ∧ (w.heap.size ≤ s_) ∧ (w.heap.size ≤ s_) ∧ (gb449 ≠ s_) ∧ (s_ ≠ gb449) ∧ (gb450 ≠ s_) ∧ (s_ ≠ gb450) ∧ (gb453 ≠ s_) ∧ (s_ ≠ gb453) ∧ (Below w.heap.size w w')) ?_ ?_
      rotate_left
      ·intro hCont
       refine two_ (i := 4) (j := 8) (Ni := some 31) (Nj := some 8) #[true, true, true, true, true, false, false, false, false, false, false] #[true, true, true, true, false, false, false, false, true, false, false] rfl rfl rfl rfl (two_of HT_.out (by kernel_rfl)) (by decide) (by decide) (fun K hK => ?_) (fun K hK => ?_)
       ·skip
        refine goes_ Tryz.func135 (by kernel_rfl) rfl #[.agg #[.int .i64 x454000_2, .int .i64 x454001_2], .int .u8 (bt a1 x7_2)] (by rfl) rfl rfl sqA ?_
        with_reducible refine (spec_l2Move.calls k2 x454000_2 x454001_2 (bt a1 x7_2) t454 t455 false _ A24.out).mono ?_
        rintro e w40 ⟨rfl, hb⟩
        refine ⟨_, rfl, ?_⟩
        replace BK449 := sqT BK449 hb
        replace BK450 := sqT BK450 hb
        replace BK453 := sqT BK453 hb
        replace HB := sqS (sqB3 HB GE449 GE450 GE453) hb
        (try clear hb)
        (try clear hb2)
        (try clear hk)
        (try clear hi)
        refine hK.out _ _ ⟨(blk_cell BK453.out 0).trans rfl, (blk_cell BK453.out 1).trans rfl⟩ (fun hHeld => ?_)
        clear hK K
        refine sqN (some 31) ?_
        refine sqP (i := 5) (N := some 26) (h := ?_)
        refine sqP (i := 6) (N := some 32) (h := ?_)
        refine sqP (i := 7) (N := some 33) (h := ?_)
        refine one_ (i := 8) (N := some 8) #[true, true, true, true, true, true, true, true, true, false, false] rfl rfl (one_of HT_.out (by kernel_rfl)) (by decide) (fun K hK => ?_)
        refine box_step ?hg (N := 8) ?hd (cs := #[.int .i64 0, .int .i64 0]) (t := 31) ?hr ?_; (case hd => rfl); (case hg => rfl); (case hr => exact Z21)
        intro gb457 hg w41 hbox hb
        have BK457 := Aside0.mk (hbox)
        have GW457 := Aside0.mk ((sqG hg (sqB3 HB GE449 GE450 GE453)))
        have GE457 := Aside0.mk ((sqG hg (sqB3 HB GE449 GE450 GE453)))
        replace HB := sqS (sqB3 HB GE449 GE450 GE453) hb
        obtain ⟨NB449_457, NB457_449⟩ := sqM hg BK449
        replace BK449 := sqT BK449 hb
        obtain ⟨NB450_457, NB457_450⟩ := sqM hg BK450
        replace BK450 := sqT BK450 hb
        obtain ⟨NB453_457, NB457_453⟩ := sqM hg BK453
        replace BK453 := sqT BK453 hb
        clear hb hbox hg
        refine hK.out _ _ ⟨(blk_cell BK453.out 0).trans rfl, (blk_cell BK453.out 1).trans rfl⟩ (fun hHeld => ?_)
        clear hK K
        refine sqN (some 8) ?_
        exact norm_ Z32 (hCont (gb457) _ ⟨hHeld, (sqK BK449), (sqK BK450), (sqK BK453), (sqK BK457), GW457.out, GE457.out, NB449_457.out, NB457_449.out, NB450_457.out, NB457_450.out, NB453_457.out, NB457_453.out, (sqB4 HB GE449 GE450 GE453 GE457)⟩)
       ·skip
        refine box_step ?hg (N := 8) ?hd (cs := #[.int .i64 0, .int .i64 0]) (t := 31) ?hr ?_; (case hd => rfl); (case hg => rfl); (case hr => exact Z21)
        intro gb457 hg w40 hbox hb
        have BK457 := Aside0.mk (hbox)
        have GW457 := Aside0.mk ((sqG hg (sqB3 HB GE449 GE450 GE453)))
        have GE457 := Aside0.mk ((sqG hg (sqB3 HB GE449 GE450 GE453)))
        replace HB := sqS (sqB3 HB GE449 GE450 GE453) hb
        obtain ⟨NB449_457, NB457_449⟩ := sqM hg BK449
        replace BK449 := sqT BK449 hb
        obtain ⟨NB450_457, NB457_450⟩ := sqM hg BK450
        replace BK450 := sqT BK450 hb
        obtain ⟨NB453_457, NB457_453⟩ := sqM hg BK453
        replace BK453 := sqT BK453 hb
        clear hb hbox hg
        refine hK.out _ _ ⟨(blk_cell BK453.out 0).trans rfl, (blk_cell BK453.out 1).trans rfl⟩ (fun hHeld => ?_)
        clear hK K
        refine sqN (some 8) ?_
        refine one_ (i := 4) (N := some 31) #[true, true, true, true, true, false, false, false, true, false, false] rfl rfl (one_of HT_.out (by kernel_rfl)) (by decide) (fun K hK => ?_)
        refine goes_ Tryz.func135 (by kernel_rfl) rfl #[.agg #[.int .i64 x454000_2, .int .i64 x454001_2], .int .u8 (bt a1 x7_2)] (by rfl) rfl rfl sqA ?_
        with_reducible refine (spec_l2Move.calls k2 x454000_2 x454001_2 (bt a1 x7_2) t454 t455 false _ A24.out).mono ?_
        rintro e w41 ⟨rfl, hb⟩
        refine ⟨_, rfl, ?_⟩
        replace BK449 := sqT BK449 hb
        replace BK450 := sqT BK450 hb
        replace BK453 := sqT BK453 hb
        replace BK457 := sqT BK457 hb
        replace HB := sqS (sqB4 HB GE449 GE450 GE453 GE457) hb
        (try clear hb)
        (try clear hb2)
        (try clear hk)
        (try clear hi)
        refine hK.out _ _ ⟨(blk_cell BK453.out 0).trans rfl, (blk_cell BK453.out 1).trans rfl⟩ (fun hHeld => ?_)
        clear hK K
        refine sqN (some 31) ?_
        refine sqP (i := 5) (N := some 26) (h := ?_)
        refine sqP (i := 6) (N := some 32) (h := ?_)
        refine sqP (i := 7) (N := some 33) (h := ?_)
        exact norm_ Z32 (hCont (gb457) _ ⟨hHeld, (sqK BK449), (sqK BK450), (sqK BK453), (sqK BK457), GW457.out, GE457.out, NB449_457.out, NB457_449.out, NB450_457.out, NB457_450.out, NB453_457.out, NB457_453.out, (sqB4 HB GE449 GE450 GE453 GE457)⟩)
      rintro gb457 w42 ⟨hS_, h0_, h1_, h2_, h3_, h4_, h5_, h6_, h7_, h8_, h9_, h10_, h11_, h12_⟩
      replace BK449 := Aside0.mk h0_
      replace BK450 := Aside0.mk h1_
      replace BK453 := Aside0.mk h2_
      replace BK457 := Aside0.mk h3_
      replace GW457 := Aside0.mk h4_
      replace GE457 := Aside0.mk h5_
      replace NB449_457 := Aside0.mk h6_
      replace NB457_449 := Aside0.mk h7_
      replace NB450_457 := Aside0.mk h8_
      replace NB457_450 := Aside0.mk h9_
      replace NB453_457 := Aside0.mk h10_
      replace NB457_453 := Aside0.mk h11_
      replace HB := Aside0.mk h12_
      clear h0_ h1_ h2_ h3_ h4_ h5_ h6_ h7_ h8_ h9_ h10_ h11_ h12_
      have hHeld : w42.cell? ⟨gb453, 0, none⟩ = some (.int .i64 x454000_2) ∧ w42.cell? ⟨gb453, 1, none⟩ = some (.int .i64 x454001_2) := hS_
      refine norm_ (a' := ?_) ?_ ?_
      rotate_left
      ·simp only [putAll, Act.put, List.setIfInBounds_toArray, List.set_cons_zero, List.set_cons_succ]
       rfl
      refine one_ (i := 9) (N := none) #[true, true, true, true, true, true, true, true, true, true, false] rfl rfl (one_of HT_.out (by kernel_rfl)) (by decide) (fun K hK => ?_)
      have hs43 : w42.cell? ⟨gb457, 0, none⟩ = some (.int .i64 0) := (blk_cell BK457.out 0).trans rfl
      have hfs43 := blk_frozen BK457.out 0
      have hns43_0 := NB449_457.out
      have hns43_1 := NB450_457.out
      have hns43_2 := NB453_457.out
      have hms43_0 := NB457_449.out
      have hms43_1 := NB457_450.out
      have hms43_2 := NB457_453.out
      have hs44 : w42.cell? ⟨gb457, 1, none⟩ = some (.int .i64 0) := (blk_cell BK457.out 1).trans rfl
      have hfs44 := blk_frozen BK457.out 1
      refine skip_ (w1 := ?_) (by rfl) rfl ?_ ?_
      rotate_left
      ·go_simp
       rfl
      refine hK.out _ _ ⟨((cell_far (p := ⟨gb457, _, none⟩) NB453_457.out _).trans (((cell_far (p := ⟨gb457, _, none⟩) NB453_457.out _).trans (hHeld.1)))), ((cell_far (p := ⟨gb457, _, none⟩) NB453_457.out _).trans (((cell_far (p := ⟨gb457, _, none⟩) NB453_457.out _).trans (hHeld.2))))⟩ (fun hHeld => ?_)
      clear hK K
      refine sqP (i := 10) (N := some 9) (h := ?_)
      refine done_ (done_of HT_.out (by kernel_rfl)) ?_
      have hnb45 := NB450_449.out
      have hnc45 := NB449_450.out
      have hnb46 := NB450_453.out
      have hnc46 := NB453_450.out
      have hnb47 := NB450_457.out
      have hnc47 := NB457_450.out
      obtain ⟨hcz48_0, hcz48_1, hfz48_0, hfz48_1⟩ := sqY2 BK450
      try go_wp2
      refine bodyPost_ret (results_ct rfl _ _ gb450 31 #[.int .i64 0, .int .i64 0] (0, 0) _ rfl (by refine sqPut (cs := #[.int .i64 0, .int .i64 x451001_2]) ?_ 1; refine sqPut (cs := #[.int .i64 x451000_2, .int .i64 x451001_2]) ?_ 0; refine sqFar ?_ NB450_457; refine sqFar ?_ NB450_457; exact sqK BK450) Tryz.underlying31 rfl (by kernel_rfl)) rfl ?_
      exact ⟨Z6, sqB4 HB GE449 GE450 GE453 GE457⟩
     rw [if_neg c21] at H
     have c21b0 : decide (x7_2 < (a1.size : Int)) = false := decide_eq_false c21
     clear c21
     obtain ⟨rfl, rfl, rfl⟩ := sqO3 H
     have hnb49 := NB453_449.out
     have hnc49 := NB449_453.out
     have hnb50 := NB453_450.out
     have hnc50 := NB450_453.out
     obtain ⟨hcz51_0, hcz51_1, hfz51_0, hfz51_1⟩ := sqY2 BK453
     have hnb52 := NB450_449.out
     have hnc52 := NB449_450.out
     obtain ⟨hcz53_0, hcz53_1, hfz53_0, hfz53_1⟩ := sqY2 BK450
     go_wp2
     refine bodyPost_ret (results_ct rfl _ _ gb450 31 #[.int .i64 x454000_2, .int .i64 x454001_2] (0, 0) _ rfl (by refine sqPut (cs := #[.int .i64 x454000_2, .int .i64 x451001_2]) ?_ 1; refine sqPut (cs := #[.int .i64 x451000_2, .int .i64 x451001_2]) ?_ 0; exact sqK BK450) Tryz.underlying31 rfl (by kernel_rfl)) rfl ?_
     exact ⟨Z6, sqB3 HB GE449 GE450 GE453⟩

end Go.Proofs.YtofmlbgfcohhoaaGreatDoor.PFnExactDeskLine
