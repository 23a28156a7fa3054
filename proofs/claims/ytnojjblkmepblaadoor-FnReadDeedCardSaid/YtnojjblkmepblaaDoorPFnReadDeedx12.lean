/- Lean functions of the Go functions that the law FnReadDeed reaches, each with its contract: made by a program of this session. -/
import Derived.Test.YtnojjblkmepblaaDoorPFnReadDeedx0
import Derived.Test.YtnojjblkmepblaaDoorPFnReadDeedx1
import Derived.Test.YtnojjblkmepblaaDoorPFnReadDeedx3
import Derived.Test.YtnojjblkmepblaaDoorPFnReadDeedx6
import Derived.Test.YtnojjblkmepblaaDoorPFnReadDeedx7
import Derived.Test.YtnojjblkmepblaaDoorPFnReadDeedx8
import Derived.Test.YtnojjblkmepblaaDoorPFnReadDeedx11
namespace Go.Proofs.YtnojjblkmepblaaDoor.PFnReadDeed
open Go.RowKit Go.Proofs.YtnojjblkmepblaaDoorW.PrintWords Go.Proofs.YtnojjblkmepblaaDoorW.PrintLast Go.Proofs.YtnojjblkmepblaaDoorW.PrintMore Go.Proofs.YtnojjblkmepblaaDoor.Lib
attribute [local go_sem] max2_int min2_int max_two min_two max_three min_three max_four min_four   -- for this text's walks alone
set_option linter.unusedVariables false
set_option linter.unusedSimpArgs false

attribute [local go_sem high] eqA26
/-! ### spec_l20Open: function 39 -/
def spec_l20Open.f (l0 : List Int) : Option (List Int × Int) := if (l0.length : Int) > 2000 then (if 2000 ≤ (l0.length : Int) then (some (l0.take 2000, 0)) else (none)) else (some (l0, 0))
set_option maxHeartbeats 8000000 in
set_option maxRecDepth 100000 in
theorem spec_l20Open.calls (A0 : Option Addr) (c0 : Nat) (l0 : List Int) (r1 : List Int) (r2 : Int) (w0 w : World) (hB : Below w0.heap.size w0 w) (hr0 : Kd.C (Kd.int .u8) w0 A0 l0.length l0) (hc0 : l0.length ≤ c0) (h : spec_l20Open.f l0 = some (r1, r2)) :
    Calls Tryd.prog 39 #[.slice A0 l0.length c0] w fun e w' => ∃ g_ : Nat, e = .returned (.pointer (some ⟨g_, 0, none⟩)) ∧ IsS74 w0 w' g_ r1 r2 ∧ Below w0.heap.size w0 w' ∧ Below w.heap.size w w' := by
  have hu74 := Tryd.underlying74
  have HR0 := Aside0.mk hr0
  have HC0 := Aside0.mk hc0
  clear hr0 hc0
  have HBW := Aside0.mk (Below.refl w.heap.size w)
  have HW0 := Aside0.mk hB.size
  have HB := Aside0.mk hB
  clear hB
  have H : (if (l0.length : Int) > 2000 then (if 2000 ≤ (l0.length : Int) then (some (l0.take 2000, 0)) else (none)) else (some (l0, 0))) = some (r1, r2) := h
  clear h
  by_cases c2 : (l0.length : Int) > 2000
  · rw [if_pos c2] at H
    have c2b0 : decide (2000 < (l0.length : Int)) = true := decide_eq_true c2
    have c2b1 : decide (2000 < l0.length) = true := decide_eq_true (by omega)
    clear c2
    by_cases c3 : 2000 ≤ (l0.length : Int)
    · rw [if_pos c3] at H
      have c3b0 := eq_true c3
      have c3b1 : decide (2000 ≤ (l0.length : Int)) = true := decide_eq_true c3
      clear c3
      simp only [Option.some.injEq, Prod.mk.injEq] at H
      obtain ⟨rfl, rfl⟩ := H
      obtain ⟨i04, hi04, _, hsz4, _⟩ := info_parts info5
      obtain ⟨hcut4, hA4, hC4⟩ := print_take_of (P := Tryd.prog) (Value.int .u8) 0 43 5 .i64 Tryd.underlying43 hi04 hsz4 A0 c0 l0 2000 (by omega) (of_decide_eq_true (by first | (with_reducible assumption) | assumption)) HC0.out
      have HR303 := Aside0.mk (Kd.C_of_reads (h1 := fun _ => rfl) (hA4 _ (Kd.reads_of_C HR0.out)))
      have HC303 := Aside0.mk hC4
      clear hA4 hC4 hi04 hsz4
      go_enter Tryd.func39, Tryd.ntmps39
      go_wp2_with (first | ((with_reducible refine gate_dst (N := 10) rfl ?_); refine box_event ?hg (N := 10) ?hd (cs := #[.slice A0 (l0.take 2000).length c0, .int .i64 0]) (t := 74) ?hr ?_; (case hd => rfl); (case hg => rfl); (case hr => first | (go_simp; done) | (go_simp; rfl)); intro gb304 hg w5 hbox hb; replace HB := sqS (sqB HB) hb; have BK304 := Aside0.mk (hbox); have GW304 := Aside0.mk ((sqG hg (sqB HBW))); have GE304 := Aside0.mk ((Nat.le_trans HW0.out (sqG hg (sqB HBW)) : w0.heap.size ≤ gb304)); replace HBW := Aside0.mk (below_step HBW.out hb); clear hb hbox hg))
      go_ret
      exact ⟨_, rfl, (show IsS74 w0 _ gb304 (l0.take 2000) 0 from ⟨_, _, by (with_reducible repeat (first | refine blk_drewN ?_ _ | refine blk_drew ?_ | refine blk_alloc ?_ _)); exact BK304.out, GE304.out, HR303.out⟩), sqB1 HB GE304, sqB1 HBW GW304⟩
    · rw [if_neg c3] at H
      exact absurd H (by simp)
  · rw [if_neg c2] at H
    have c2b0 : decide (2000 < (l0.length : Int)) = false := decide_eq_false c2
    have c2b1 : decide (2000 < l0.length) = false := decide_eq_false (by omega)
    clear c2
    simp only [Option.some.injEq, Prod.mk.injEq] at H
    obtain ⟨rfl, rfl⟩ := H
    go_enter Tryd.func39, Tryd.ntmps39
    go_wp2_with (first | ((with_reducible refine gate_dst (N := 10) rfl ?_); refine box_event ?hg (N := 10) ?hd (cs := #[.slice A0 l0.length c0, .int .i64 0]) (t := 74) ?hr ?_; (case hd => rfl); (case hg => rfl); (case hr => first | (go_simp; done) | (go_simp; rfl)); intro gb305 hg w6 hbox hb; replace HB := sqS (sqB HB) hb; have BK305 := Aside0.mk (hbox); have GW305 := Aside0.mk ((sqG hg (sqB HBW))); have GE305 := Aside0.mk ((Nat.le_trans HW0.out (sqG hg (sqB HBW)) : w0.heap.size ≤ gb305)); replace HBW := Aside0.mk (below_step HBW.out hb); clear hb hbox hg))
    go_ret
    exact ⟨_, rfl, (show IsS74 w0 _ gb305 l0 0 from ⟨_, _, by (with_reducible repeat (first | refine blk_drewN ?_ _ | refine blk_drew ?_ | refine blk_alloc ?_ _)); exact BK305.out, GE305.out, HR0.out⟩), sqB1 HB GE305, sqB1 HBW GW305⟩

/-! ### spec_l20Spoil: function 42 -/
def spec_l20Spoil.f (k : Nat) (s0_0 : List Int) (s0_1 : Int) (a1 : ByteArray) : Option (ByteArray × Int) := if (a1.size : Int) = 0 then (some ((⟨#[10]⟩ : ByteArray), s0_1)) else ((spec_l20Rd_pick.f k s0_0 s0_1 (a1.size : Int)).bind fun bt306 => (if 0 ≤ bt306.1 then (if bt306.1 ≤ (a1.size : Int) then ((some (([(⟨#[]⟩ : ByteArray), (⟨#[48]⟩ : ByteArray), (⟨#[32]⟩ : ByteArray), (⟨#[10]⟩ : ByteArray), (⟨#[45]⟩ : ByteArray), (⟨#[98, 97, 99, 107]⟩ : ByteArray)] : List ByteArray) : List ByteArray)).bind fun y308 => ((spec_l20Rd_pick.f k s0_0 bt306.2 6).bind fun bt311 => (if 0 ≤ bt311.1 then (if bt311.1 < (y308.length : Int) then (if (a1.extract 0 (bt306.1 : Int).toNat).size + (rdOf ByteArray.empty y308 bt311.1).size ≤ 9223372036854775807 then (if 0 ≤ (wrap64 (bt306.1 + 1)) then (if (wrap64 (bt306.1 + 1)) ≤ (a1.size : Int) then (if ((a1.extract 0 (bt306.1 : Int).toNat) ++ (rdOf ByteArray.empty y308 bt311.1)).size + (a1.extract ((wrap64 (bt306.1 + 1)) : Int).toNat a1.size).size ≤ 9223372036854775807 then (some (((a1.extract 0 (bt306.1 : Int).toNat) ++ (rdOf ByteArray.empty y308 bt311.1)) ++ (a1.extract ((wrap64 (bt306.1 + 1)) : Int).toNat a1.size), bt311.2)) else (none)) else (none)) else (none)) else (none)) else (none)) else (none)))) else (none)) else (none)))
theorem spec_l20Spoil.mono : ∀ a0 a1 a2 k, LeO (spec_l20Spoil.f k a0 a1 a2) (spec_l20Spoil.f (k + 1) a0 a1 a2) := by
  intro a0 a1 a2 k
  unfold spec_l20Spoil.f
  repeat' first
      | (with_reducible exact spec_l20Rd_pick.mono _ _ _ _)
      | (with_reducible exact LeO.refl _)
      | (with_reducible exact LeO.none _)
      | (with_reducible refine LeO.ite ?_ ?_)
      | (with_reducible refine LeO.bind ?_ (fun _ => ?_))
      | exact spec_l20Rd_pick.mono _ _ _ _
      | exact LeO.none _
      | refine LeO.ite ?_ ?_
      | refine LeO.bind ?_ (fun _ => ?_)
def spec_l20Spoil.T4 : Bool × List (List Nat × List Nat) := (true, [([], []), ([], []), ([0, 1], [0, 1]), ([], []), ([], []), ([4], [4]), ([3, 5], [3, 5]), ([6], [6]), ([2, 7], [2, 7]), ([], []), ([], []), ([10], [10]), ([9, 11], [9, 11]), ([8, 12], [8, 12]), ([13, 5, 0, 1, 2, 3, 4, 5, 6, 7, 8, 9, 10, 11, 12, 13], [13])])
def spec_l20Spoil.B4 : List Nat := [0, 0, 3, 0, 0, 16, 56, 120, 255, 0, 0, 1024, 3584, 8191, 16383]
theorem spec_l20Spoil.tab4 : rtab .any (opsOf Tryd.f42 4) = spec_l20Spoil.T4 := by kernel_rfl
theorem spec_l20Spoil.bits4 : waitsOk spec_l20Spoil.T4.2 spec_l20Spoil.B4 = true := by kernel_rfl
set_option maxHeartbeats 8000000 in
set_option maxRecDepth 100000 in
theorem spec_l20Spoil.calls (k : Nat) (g : Nat) (s0_0 : List Int) (s0_1 : Int) (a1 : ByteArray) (r1 : ByteArray) (r2 : Int) (w0 w : World) (hI : IsS74 w0 w g s0_0 s0_1) (hB : Below w0.heap.size w0 w) (h : spec_l20Spoil.f k s0_0 s0_1 a1 = some (r1, r2)) :
    Calls Tryd.prog 42 #[.pointer (some ⟨g, 0, none⟩), .string a1] w fun e w' => e = .returned (.string r1) ∧ IsS74 w0 w' g s0_0 r2 ∧ Below w0.heap.size w0 w' ∧ KeepBut w w' g none := by
  have HI0 := Aside0.mk hI
  have HK := Aside0.mk (KeepBut.refl w g none)
  have HL := Aside0.mk hB.size
  clear hI
  have HW0 := Aside0.mk hB.size
  have HB := Aside0.mk hB
  clear hB
  have H : (if (a1.size : Int) = 0 then (some ((⟨#[10]⟩ : ByteArray), s0_1)) else ((spec_l20Rd_pick.f k s0_0 s0_1 (a1.size : Int)).bind fun bt306 => (if 0 ≤ bt306.1 then (if bt306.1 ≤ (a1.size : Int) then ((some (([(⟨#[]⟩ : ByteArray), (⟨#[48]⟩ : ByteArray), (⟨#[32]⟩ : ByteArray), (⟨#[10]⟩ : ByteArray), (⟨#[45]⟩ : ByteArray), (⟨#[98, 97, 99, 107]⟩ : ByteArray)] : List ByteArray) : List ByteArray)).bind fun y308 => ((spec_l20Rd_pick.f k s0_0 bt306.2 6).bind fun bt311 => (if 0 ≤ bt311.1 then (if bt311.1 < (y308.length : Int) then (if (a1.extract 0 (bt306.1 : Int).toNat).size + (rdOf ByteArray.empty y308 bt311.1).size ≤ 9223372036854775807 then (if 0 ≤ (wrap64 (bt306.1 + 1)) then (if (wrap64 (bt306.1 + 1)) ≤ (a1.size : Int) then (if ((a1.extract 0 (bt306.1 : Int).toNat) ++ (rdOf ByteArray.empty y308 bt311.1)).size + (a1.extract ((wrap64 (bt306.1 + 1)) : Int).toNat a1.size).size ≤ 9223372036854775807 then (some (((a1.extract 0 (bt306.1 : Int).toNat) ++ (rdOf ByteArray.empty y308 bt311.1)) ++ (a1.extract ((wrap64 (bt306.1 + 1)) : Int).toNat a1.size), bt311.2)) else (none)) else (none)) else (none)) else (none)) else (none)) else (none)))) else (none)) else (none)))) = some (r1, r2) := h
  clear h
  by_cases c3 : (a1.size : Int) = 0
  · rw [if_pos c3] at H
    have c3b0 : ((a1.size : Int) == 0) = true := beq_iff_eq.mpr c3
    have c3b1 : ((a1.size : Int) != 0) = false := bne_eq_false_iff_eq.mpr c3
    clear c3
    simp only [Option.some.injEq, Prod.mk.injEq] at H
    obtain ⟨rfl, rfl⟩ := H
    go_enter Tryd.func42, Tryd.ntmps42
    go_wp2
    go_ret
    exact ⟨by first | rfl | (simp [errP_none, errP_some] <;> rfl) | (simp [*, errP_none, errP_some] <;> rfl), by repeat (first | (with_reducible first | exact HI0.out | apply IsS74.alloc | apply IsS74.drewN | apply IsS74.drew | apply IsS74.set_1) | exact HI0.out), by repeat (first | (with_reducible first | exact HB.out | apply below_alloc | apply pw_below_drewN | apply below_drew1 | refine below_set ?_ (IsS74.ge HI0.out)) | exact HB.out), by repeat (first | (with_reducible first | exact HK.out | apply KeepBut.set_ | apply keep_drewN | apply keep_drew | apply keep_alloc) | exact HK.out)⟩
  · rw [if_neg c3] at H
    have c3b0 : ((a1.size : Int) == 0) = false := beq_eq_false_iff_ne.mpr c3
    have c3b1 : ((a1.size : Int) != 0) = true := bne_iff_ne.mpr c3
    replace H := Option.bind_eq_some_iff.mp H
    obtain ⟨⟨t306, t307⟩, A40, H⟩ := H
    replace H : (if 0 ≤ t306 then (if t306 ≤ (a1.size : Int) then ((some (([(⟨#[]⟩ : ByteArray), (⟨#[48]⟩ : ByteArray), (⟨#[32]⟩ : ByteArray), (⟨#[10]⟩ : ByteArray), (⟨#[45]⟩ : ByteArray), (⟨#[98, 97, 99, 107]⟩ : ByteArray)] : List ByteArray) : List ByteArray)).bind fun y308 => ((spec_l20Rd_pick.f k s0_0 t307 6).bind fun bt311 => (if 0 ≤ bt311.1 then (if bt311.1 < (y308.length : Int) then (if (a1.extract 0 (t306 : Int).toNat).size + (rdOf ByteArray.empty y308 bt311.1).size ≤ 9223372036854775807 then (if 0 ≤ (wrap64 (t306 + 1)) then (if (wrap64 (t306 + 1)) ≤ (a1.size : Int) then (if ((a1.extract 0 (t306 : Int).toNat) ++ (rdOf ByteArray.empty y308 bt311.1)).size + (a1.extract ((wrap64 (t306 + 1)) : Int).toNat a1.size).size ≤ 9223372036854775807 then (some (((a1.extract 0 (t306 : Int).toNat) ++ (rdOf ByteArray.empty y308 bt311.1)) ++ (a1.extract ((wrap64 (t306 + 1)) : Int).toNat a1.size), bt311.2)) else (none)) else (none)) else (none)) else (none)) else (none)) else (none)))) else (none)) else (none)) = some (r1, r2) := H
    have A4 := Aside0.mk A40
    clear A40
    by_cases c5 : 0 ≤ t306
    · rw [if_pos c5] at H
      have c5b0 := eq_true c5
      have c5b1 : decide (0 ≤ t306) = true := decide_eq_true c5
      clear c5
      by_cases c6 : t306 ≤ (a1.size : Int)
      · rw [if_pos c6] at H
        have c6b0 := eq_true c6
        have c6b1 : decide (t306 ≤ (a1.size : Int)) = true := decide_eq_true c6
        clear c6
        obtain ⟨y308, hy308⟩ : ∃ y_ : List ByteArray, y_ = (([(⟨#[]⟩ : ByteArray), (⟨#[48]⟩ : ByteArray), (⟨#[32]⟩ : ByteArray), (⟨#[10]⟩ : ByteArray), (⟨#[45]⟩ : ByteArray), (⟨#[98, 97, 99, 107]⟩ : ByteArray)] : List ByteArray)) := ⟨_, rfl⟩
        replace H : ((spec_l20Rd_pick.f k s0_0 t307 6).bind fun bt311 => (if 0 ≤ bt311.1 then (if bt311.1 < (y308.length : Int) then (if (a1.extract 0 (t306 : Int).toNat).size + (rdOf ByteArray.empty y308 bt311.1).size ≤ 9223372036854775807 then (if 0 ≤ (wrap64 (t306 + 1)) then (if (wrap64 (t306 + 1)) ≤ (a1.size : Int) then (if ((a1.extract 0 (t306 : Int).toNat) ++ (rdOf ByteArray.empty y308 bt311.1)).size + (a1.extract ((wrap64 (t306 + 1)) : Int).toNat a1.size).size ≤ 9223372036854775807 then (some (((a1.extract 0 (t306 : Int).toNat) ++ (rdOf ByteArray.empty y308 bt311.1)) ++ (a1.extract ((wrap64 (t306 + 1)) : Int).toNat a1.size), bt311.2)) else (none)) else (none)) else (none)) else (none)) else (none)) else (none))) = some (r1, r2) := by first | (rw [hy308]; with_reducible exact H) | (have H2_ := (Option.bind_some _ _).symm.trans H; rw [hy308]; with_reducible exact H2_) | (have H2_ := (Option.bind_some _ _).symm.trans H; with_reducible exact H2_) | with_reducible exact H | (rw [hy308]; exact H) | exact H
        have Ny308 := Aside0.mk hy308
        clear hy308
        replace H := Option.bind_eq_some_iff.mp H
        obtain ⟨⟨t311, t312⟩, A70, H⟩ := H
        replace H : (if 0 ≤ t311 then (if t311 < (y308.length : Int) then (if (a1.extract 0 (t306 : Int).toNat).size + (rdOf ByteArray.empty y308 t311).size ≤ 9223372036854775807 then (if 0 ≤ (wrap64 (t306 + 1)) then (if (wrap64 (t306 + 1)) ≤ (a1.size : Int) then (if ((a1.extract 0 (t306 : Int).toNat) ++ (rdOf ByteArray.empty y308 t311)).size + (a1.extract ((wrap64 (t306 + 1)) : Int).toNat a1.size).size ≤ 9223372036854775807 then (some (((a1.extract 0 (t306 : Int).toNat) ++ (rdOf ByteArray.empty y308 t311)) ++ (a1.extract ((wrap64 (t306 + 1)) : Int).toNat a1.size), t312)) else (none)) else (none)) else (none)) else (none)) else (none)) else (none)) = some (r1, r2) := H
        have A7 := Aside0.mk A70
        clear A70
        by_cases c8 : 0 ≤ t311
        · rw [if_pos c8] at H
          have c8b0 : decide (0 ≤ t311) = true := decide_eq_true c8
          clear c8
          by_cases c9 : t311 < (y308.length : Int)
          · rw [if_pos c9] at H
            have c9b0 : decide (t311 < (y308.length : Int)) = true := decide_eq_true c9
            clear c9
            by_cases c10 : (a1.extract 0 (t306 : Int).toNat).size + (rdOf ByteArray.empty y308 t311).size ≤ 9223372036854775807
            · rw [if_pos c10] at H
              have c10b0 := eq_true c10
              have c10b1 : decide ((a1.extract 0 (t306 : Int).toNat).size + (rdOf ByteArray.empty y308 t311).size ≤ 9223372036854775807) = true := decide_eq_true c10
              try have c10b2 : (9223372036854775807 < (a1.extract 0 (t306 : Int).toNat).size + (rdOf ByteArray.empty y308 t311).size) = False := eq_false (Nat.not_lt.2 c10)
              obtain ⟨ji11, hji11⟩ : ∃ j_ : Int, (wrap64 (t306 + 1)) = j_ := ⟨_, rfl⟩
              replace H : (if 0 ≤ (ji11) then (if (ji11) ≤ (a1.size : Int) then (if ((a1.extract 0 (t306 : Int).toNat) ++ (rdOf ByteArray.empty y308 t311)).size + (a1.extract ((ji11) : Int).toNat a1.size).size ≤ 9223372036854775807 then (some (((a1.extract 0 (t306 : Int).toNat) ++ (rdOf ByteArray.empty y308 t311)) ++ (a1.extract ((ji11) : Int).toNat a1.size), t312)) else (none)) else (none)) else (none)) = some (r1, r2) := by first | (rw [hji11] at H; exact H) | (simp only [hji11] at H ⊢; exact H)
              (try rw [hji11] at A4)
              (try rw [hji11] at A7)
              have hji11w : (IntKind.i64.wrap (t306 + 1)) = ji11 := (i64_w _).trans hji11
              by_cases c12 : 0 ≤ (ji11)
              · rw [if_pos c12] at H
                have c12b0 := eq_true c12
                have c12b1 : decide (0 ≤ (ji11)) = true := decide_eq_true c12
                clear c12
                by_cases c13 : (ji11) ≤ (a1.size : Int)
                · rw [if_pos c13] at H
                  have c13b0 := eq_true c13
                  have c13b1 : decide ((ji11) ≤ (a1.size : Int)) = true := decide_eq_true c13
                  clear c13
                  by_cases c14 : ((a1.extract 0 (t306 : Int).toNat) ++ (rdOf ByteArray.empty y308 t311)).size + (a1.extract ((ji11) : Int).toNat a1.size).size ≤ 9223372036854775807
                  · rw [if_pos c14] at H
                    have c14b0 := eq_true c14
                    have c14b1 : decide (((a1.extract 0 (t306 : Int).toNat) ++ (rdOf ByteArray.empty y308 t311)).size + (a1.extract ((ji11) : Int).toNat a1.size).size ≤ 9223372036854775807) = true := decide_eq_true c14
                    try have c14b2 : (9223372036854775807 < ((a1.extract 0 (t306 : Int).toNat) ++ (rdOf ByteArray.empty y308 t311)).size + (a1.extract ((ji11) : Int).toNat a1.size).size) = False := eq_false (Nat.not_lt.2 c14)
                    try have c14b7 : (9223372036854775807 < (a1.extract 0 (t306 : Int).toNat).size + (rdOf ByteArray.empty y308 t311).size + (a1.extract ((ji11) : Int).toNat a1.size).size) = False := by (have h_ := c14b2; (repeat rw [ByteArray.size_append] at h_); exact h_)
                    simp only [Option.some.injEq, Prod.mk.injEq] at H
                    obtain ⟨rfl, rfl⟩ := H
                    go_enter Tryd.func42, Tryd.ntmps42
                    try go_wp2_with (first | ((with_reducible refine gate_callee (f := 41) rfl ?_); refine goesL_ (some 12) rfl rfl Tryd.func41 (by kernel_rfl) rfl #[.pointer (some ⟨g, 0, none⟩), .int .i64 (a1.size : Int)] rfl sqA ?_; (with_reducible refine (spec_l20Rd_pick.calls k g s0_0 s0_1 (a1.size : Int) t306 t307 w0 _ ?side1 ?side2 A4.out).mono ?_); (case side1 => repeat (first | (with_reducible first | exact HI0.out | apply IsS74.alloc | apply IsS74.drewN | apply IsS74.drew | apply IsS74.set_1) | exact HI0.out)); (case side2 => repeat (first | (with_reducible first | exact HB.out | apply below_alloc | apply pw_below_drewN | apply below_drew1 | refine below_set ?_ (IsS74.ge HI0.out)) | exact HB.out)); rintro e w15 ⟨rfl, hi, hb, hk⟩; refine ⟨_, rfl, ?_⟩; replace HK := Aside0.mk (KeepBut.trans (by repeat (first | (with_reducible first | exact HK.out | apply KeepBut.set_ | apply keep_drewN | apply keep_drew | apply keep_alloc) | exact HK.out)) hk (.inl rfl)); replace HB := Aside0.mk (hb); replace HI0 := Aside0.mk (hi); (try clear hb)))
                    have pi313 : (0 ≤ (t311 : Int)) = True := eq_true (of_decide_eq_true (by first | (with_reducible assumption) | assumption))
                    have qi313 : (t311 < (y308.length : Int)) = True := eq_true (of_decide_eq_true (by first | (with_reducible assumption) | assumption))
                    replace HI0 := Aside0.mk (IsS74.drew HI0.out)
                    replace HK := Aside0.mk (keep_drew HK.out)
                    replace HB := Aside0.mk (below_drew1 HB.out)
                    refine start_ (n := 15) (S := fun w' => True) (ds := []) #[false, false, false, false, false, false, false, false, false, false, false, false, false, false, false] (by kernel_rfl) rfl rfl trivial (fun hHeld => ?_); refine with_tabW spec_l20Spoil.tab4 spec_l20Spoil.bits4 (fun HT_ HW_ => ?_)
                    generalize w15.drew = w16 at HI0 HK HB hHeld ⊢
                    refine pure_ (i := 0) (N := some 13) (v := ?_) (a' := ?_) #[true, false, false, false, false, false, false, false, false, false, false, false, false, false, false] rfl rfl (any_of HT_.out (by kernel_rfl)) (fun _ _ _ h => h) (Or.inl ⟨by rfl, ?_⟩) ?_ ?_
                    rotate_left
                    · intro w'
                      go_simp
                      with_reducible rfl
                    rotate_left
                    · simp only [Act.put, List.setIfInBounds_toArray, List.set_cons_zero, List.set_cons_succ, i64_w, i32_w]
                      rfl
                    refine pure_ (i := 1) (N := some 14) (v := ?_) (a' := ?_) #[true, true, false, false, false, false, false, false, false, false, false, false, false, false, false] rfl rfl (any_of HT_.out (by kernel_rfl)) (fun _ _ _ h => h) (Or.inl ⟨by rfl, ?_⟩) ?_ ?_
                    rotate_left
                    · intro w'
                      go_simp
                      with_reducible rfl
                    rotate_left
                    · simp only [Act.put, List.setIfInBounds_toArray, List.set_cons_zero, List.set_cons_succ, i64_w, i32_w]
                      rfl
                    refine pure_ (i := 4) (N := some 17) (v := ?_) (a' := ?_) #[true, true, false, false, true, false, false, false, false, false, false, false, false, false, false] rfl rfl (any_of HT_.out (by kernel_rfl)) (fun _ _ _ h => h) (Or.inl ⟨by rfl, ?_⟩) ?_ ?_
                    rotate_left
                    · intro w'
                      go_simp
                      with_reducible rfl
                    rotate_left
                    · simp only [Act.put, List.setIfInBounds_toArray, List.set_cons_zero, List.set_cons_succ, i64_w, i32_w]
                      rfl
                    refine pure_ (i := 9) (N := some 22) (v := ?_) (a' := ?_) #[true, true, false, false, true, false, false, false, false, true, false, false, false, false, false] rfl rfl (any_of HT_.out (by kernel_rfl)) (fun _ _ _ h => h) (Or.inl ⟨by rfl, ?_⟩) ?_ ?_
                    rotate_left
                    · intro w'
                      go_simp
                      with_reducible rfl
                    rotate_left
                    · simp only [Act.put, List.setIfInBounds_toArray, List.set_cons_zero, List.set_cons_succ, i64_w, i32_w]
                      rfl
                    refine pure_ (i := 10) (N := some 23) (v := ?_) (a' := ?_) #[true, true, false, false, true, false, false, false, false, true, true, false, false, false, false] rfl rfl (any_of HT_.out (by kernel_rfl)) (fun _ _ _ h => h) (Or.inl ⟨by rfl, ?_⟩) ?_ ?_
                    rotate_left
                    · intro w'
                      go_simp
                      with_reducible rfl
                    rotate_left
                    · simp only [Act.put, List.setIfInBounds_toArray, List.set_cons_zero, List.set_cons_succ, i64_w, i32_w]
                      rfl
                    refine inv_at [2, 3, 5, 6, 7, 8, 11, 12, 13, 14] (fun a0_ b a w' => ∃ (v309 : Value) (adz_v309 : Addr) (m6_ : Value), a = putSel a0_ b [(2, 15, .string (a1.extract 0 (t306 : Int).toNat)), (3, 16, v309), (5, 18, .int .i64 t311), (6, 19, m6_), (7, 20, .string (rdOf ByteArray.empty y308 t311)), (8, 21, .string ((a1.extract 0 (t306 : Int).toNat) ++ (rdOf ByteArray.empty y308 t311))), (11, 24, .int .i64 ji11), (12, 25, .string (a1.extract ((ji11) : Int).toNat a1.size)), (13, 26, .string (((a1.extract 0 (t306 : Int).toNat) ++ (rdOf ByteArray.empty y308 t311)) ++ (a1.extract ((ji11) : Int).toNat a1.size))), (14, 4, .string (((a1.extract 0 (t306 : Int).toNat) ++ (rdOf ByteArray.empty y308 t311)) ++ (a1.extract ((ji11) : Int).toNat a1.size)))] ∧ (b 5 = false → IsS74 w0 w' g s0_0 t307) ∧ (KeepBut w w' g none) ∧ (Below w0.heap.size w0 w') ∧ (b 3 = true → Kd.R Kd.string 9 w' w.heap.size (fun _ => True) v309 y308) ∧ (b 3 = true → ∃ c_, (v309 : Value) = .slice (some adz_v309) y308.length c_) ∧ (b 5 = true → IsS74 w0 w' g s0_0 t312) ∧ (b 6 = true → (m6_ : Value) = .pointer (some (adz_v309.add (t311).toNat)))) HT_.out HW_.out (by kernel_rfl) (by kernel_rfl) ?_ ?_ ?_
                    · exact ⟨.bool false, ⟨0, 0, none⟩, .bool false, by simp only [putSel, Bool.false_eq_true, if_false], fun _ => HI0.out, HK.out, HB.out, fun h_ => absurd h_ (by decide), fun h_ => absurd h_ (by decide), fun h_ => absurd h_ (by decide), fun h_ => absurd h_ (by decide)⟩
                    · skip
                      clear HB HI0 HK
                      refine steps_cons ?_ ?_
                      · rintro b a w' ⟨v309, adz_v309, m6_, ha, Q_HI0, Q_HK, Q_HB, Q_HO310, Q_HA_HO310, Q_HI0_e5, Q_X6_⟩ hb_ hon hoff
                        refine ⟨_, rfl, fun K hK => ?_⟩
                        have e13 : a.tmps[13]? = some (.string a1) := by rw [ha]; exact (putSel_off rfl).trans rfl
                        have e14 : a.tmps[14]? = some (.int .i64 t306) := by rw [ha]; exact (putSel_off rfl).trans rfl
                        replace ha := Aside0.mk ha
                        have HK := Aside0.mk Q_HK
                        have HB := Aside0.mk Q_HB
                        refine value_ (w1 := w') (v := .string (a1.extract 0 (t306 : Int).toNat)) (by rfl) rfl ?_ ?_
                        · go_simp
                          (try simp only [i64_w])
                          try rfl
                          all_goals ((try have hc12_ := of_eq_true c12b0); (try have hc13_ := of_eq_true c13b0); (try have hc5_ := of_eq_true c5b0); (try have hc6_ := of_eq_true c6b0); (try simp only [ByteArray.size_append, ByteArray.size_extract] at c10); (try simp only [ByteArray.size_append, ByteArray.size_extract] at c14); omega)
                        refine hK.out _ _ ⟨v309, adz_v309, m6_, (by rw [ha.out]; exact putSel_upk 0 hb_ rfl rfl rfl), Q_HI0, Q_HK, Q_HB, Q_HO310, Q_HA_HO310, Q_HI0_e5, Q_X6_⟩
                      refine steps_cons ?_ ?_
                      · rintro b a w' ⟨v309, adz_v309, m6_, ha, Q_HI0, Q_HK, Q_HB, Q_HO310, Q_HA_HO310, Q_HI0_e5, Q_X6_⟩ hb_ hon hoff
                        refine ⟨_, rfl, fun K hK => ?_⟩
                        replace ha := Aside0.mk ha
                        have HK := Aside0.mk Q_HK
                        have HB := Aside0.mk Q_HB
                        refine Kd.R_lit_step Kd.string _ 9 ?hg (N := 16) ?hd (xs := ([(⟨#[]⟩ : ByteArray), (⟨#[48]⟩ : ByteArray), (⟨#[32]⟩ : ByteArray), (⟨#[10]⟩ : ByteArray), (⟨#[45]⟩ : ByteArray), (⟨#[98, 97, 99, 107]⟩ : ByteArray)] : List ByteArray)) (inner := [.string (⟨#[]⟩ : ByteArray), .string (⟨#[48]⟩ : ByteArray), .string (⟨#[32]⟩ : ByteArray), .string (⟨#[10]⟩ : ByteArray), .string (⟨#[45]⟩ : ByteArray), .string (⟨#[98, 97, 99, 107]⟩ : ByteArray)]) (ok := fun _ => True) (okp := fun _ => True) ?hr ?hp (fun _ hk => hk) trivial (Below.refl _ _) (Nat.le_refl _) (by simp) ?_; (case hd => rfl); (case hg => rfl); (case hr => first | (go_simp; done) | (go_simp; rfl)); (case hp => exact (Reps.one (show Kd.M Kd.string _ _ _ (⟨#[]⟩ : ByteArray) [.string (⟨#[]⟩ : ByteArray)] from rfl) (Reps.one (show Kd.M Kd.string _ _ _ (⟨#[48]⟩ : ByteArray) [.string (⟨#[48]⟩ : ByteArray)] from rfl) (Reps.one (show Kd.M Kd.string _ _ _ (⟨#[32]⟩ : ByteArray) [.string (⟨#[32]⟩ : ByteArray)] from rfl) (Reps.one (show Kd.M Kd.string _ _ _ (⟨#[10]⟩ : ByteArray) [.string (⟨#[10]⟩ : ByteArray)] from rfl) (Reps.one (show Kd.M Kd.string _ _ _ (⟨#[45]⟩ : ByteArray) [.string (⟨#[45]⟩ : ByteArray)] from rfl) (Reps.one (show Kd.M Kd.string _ _ _ (⟨#[98, 97, 99, 107]⟩ : ByteArray) [.string (⟨#[98, 97, 99, 107]⟩ : ByteArray)] from rfl) (Reps.none _ _))))))))
                        intro v309 w17 ho18 hb hg_ hnew_
                        clear hg_ hnew_
                        (first | rw [← Ny308.out] at ho18 | (simp only [Int.reduceToNat] at ho18; rw [← Ny308.out] at ho18))
                        have n0_ := Aside0.mk (Kd.R_lower ho18 (keep_size (w := w) (g := g) (row := none) (by repeat (first | (with_reducible first | exact HK.out | apply KeepBut.set_ | apply keep_drewN | apply keep_drew | apply keep_alloc) | exact HK.out))))
                        have n2_ := Aside0.mk (KeepBut.trans (by repeat (first | (with_reducible first | exact HK.out | apply KeepBut.set_ | apply keep_drewN | apply keep_drew | apply keep_alloc) | exact HK.out)) (KeepBut.of_below hb g none) (.inl rfl))
                        have n3_ := sqS (sqB HB) hb
                        have z_HI0 := fun (h0_ : b 5 = false) => (show IsS74 w0 w17 g s0_0 t307 from by first | exact (IsS74.below (by repeat (first | (with_reducible first | exact (Q_HI0 h0_) | apply IsS74.alloc | apply IsS74.drewN | apply IsS74.drew | apply IsS74.set_1) | exact (Q_HI0 h0_))) hb))
                        have z_HI0_e5 := fun (h0_ : b 5 = true) => (show IsS74 w0 w17 g s0_0 t312 from by first | exact (IsS74.below (by repeat (first | (with_reducible first | exact (Q_HI0_e5 h0_) | apply IsS74.alloc | apply IsS74.drewN | apply IsS74.drew | apply IsS74.set_1) | exact (Q_HI0_e5 h0_))) hb))
                        clear HK
                        clear HB
                        have HO310 := n0_
                        have HK := n2_
                        have HB := n3_
                        clear n0_ n2_ n3_
                        clear hb ho18
                        obtain ⟨Ao19, co19, eo19⟩ := Kd.R_slice HO310.out
                        subst eo19
                        obtain ⟨ado19, fo19, _⟩ := Kd.at_string (Kd.R_reads' HO310.out).2.2 0 (by decide) (by rw [Ny308.out]; simp)
                        cases fo19
                        refine hK.out _ _ ⟨.slice (some ado19) y308.length co19, ado19, m6_, (by rw [ha.out]; exact putSel_upk 1 hb_ rfl rfl rfl), z_HI0, (by repeat (first | (with_reducible first | exact HK.out | apply KeepBut.set_ | apply keep_drewN | apply keep_drew | apply keep_alloc) | exact HK.out)), (sqB HB), fun _ => (sqR HO310), fun _ => ⟨_, rfl⟩, z_HI0_e5, fun h0_ => absurd ((hoff 6 (by kernel_rfl)).symm.trans h0_) (by decide)⟩
                      refine steps_cons ?_ ?_
                      · rintro b a w' ⟨v309, adz_v309, m6_, ha, Q_HI0, Q_HK, Q_HB, Q_HO310, Q_HA_HO310, Q_HI0_e5, Q_X6_⟩ hb_ hon hoff
                        refine ⟨_, rfl, fun K hK => ?_⟩
                        have e17 : a.tmps[17]? = some (.pointer (some ⟨g, 0, none⟩)) := by rw [ha]; exact (putSel_off rfl).trans rfl
                        replace ha := Aside0.mk ha
                        have HI0 := Aside0.mk (Q_HI0 hb_)
                        have HK := Aside0.mk Q_HK
                        have HB := Aside0.mk Q_HB
                        refine goes_ Tryd.func41 (by kernel_rfl) rfl #[.pointer (some ⟨g, 0, none⟩), .int .i64 6] (by rfl) rfl rfl (by first | (simp only [List.map_toArray, List.map_cons, List.map_nil, Act.eval, Array.getD_eq_getD_getElem?, Option.getD_some, e17]; done) | (simp only [List.map_toArray, List.map_cons, List.map_nil, Act.eval, Array.getD_eq_getD_getElem?, Option.getD_some, e17]; rfl)) ?_
                        with_reducible refine (spec_l20Rd_pick.calls k g s0_0 t307 6 t311 t312 w0 _ ?side1 ?side2 A7.out).mono ?_
                        (case side1 => repeat (first | (with_reducible first | exact HI0.out | apply IsS74.alloc | apply IsS74.drewN | apply IsS74.drew | apply IsS74.set_1) | exact HI0.out))
                        (case side2 => repeat (first | (with_reducible first | exact HB.out | apply below_alloc | apply pw_below_drewN | apply below_drew1 | refine below_set ?_ (IsS74.ge HI0.out)) | exact HB.out))
                        rintro e w17 ⟨rfl, hi, hb, hk⟩
                        refine ⟨_, rfl, ?_⟩
                        have n0_ := Aside0.mk (KeepBut.trans (by repeat (first | (with_reducible first | exact HK.out | apply KeepBut.set_ | apply keep_drewN | apply keep_drew | apply keep_alloc) | exact HK.out)) hk (.inl rfl))
                        have n1_ := Aside0.mk (hb)
                        have n2_ := Aside0.mk (hi)
                        have z_HO310 := fun (h0_ : b 3 = true) => (show Kd.R Kd.string 9 w17 w.heap.size (fun _ => True) v309 y308 from by first | exact (Kd.R_mono (Kd.R_keep (IsS74.apart (show IsS74 w0 _ g s0_0 t307 from by repeat (first | (with_reducible first | exact HI0.out | apply IsS74.alloc | apply IsS74.drewN | apply IsS74.drew | apply IsS74.set_1) | exact HI0.out)) (by (with_reducible repeat (first | apply Kd.R_alloc | apply Kd.R_drewN | apply Kd.R_drew)); exact (Q_HO310 h0_)) (by decide)) hk (fun _ h => h.2)) (fun _ h => h.1)) | exact Kd.R_mono (Kd.R_mono (Kd.R_keep (IsS74.apart (show IsS74 w0 _ g s0_0 t307 from by repeat (first | (with_reducible first | exact HI0.out | apply IsS74.alloc | apply IsS74.drewN | apply IsS74.drew | apply IsS74.set_1) | exact HI0.out)) (by (with_reducible repeat (first | apply Kd.R_alloc | apply Kd.R_drewN | apply Kd.R_drew)); exact (Q_HO310 h0_)) (by decide)) hk (fun _ h => h.2)) (fun _ h => h.1)) (fun _ h_ => by first | trivial | exact h_ | exact h_.1))
                        clear HK
                        clear HB
                        clear HI0
                        have HK := n0_
                        have HB := n1_
                        have HI0 := n2_
                        clear n0_ n1_ n2_
                        (try clear hb)
                        (try clear hb2)
                        (try clear hk)
                        (try clear hi)
                        refine hK.out _ _ ⟨v309, adz_v309, m6_, (by rw [ha.out]; exact putSel_upk 2 hb_ rfl rfl rfl), fun h0_ => absurd ((up_self b 5).symm.trans h0_) (by decide), (by repeat (first | (with_reducible first | exact HK.out | apply KeepBut.set_ | apply keep_drewN | apply keep_drew | apply keep_alloc) | exact HK.out)), (by repeat (first | (with_reducible first | exact HB.out | apply below_alloc | apply pw_below_drewN | apply below_drew1 | refine below_set ?_ (IsS74.ge HI0.out)) | exact HB.out)), z_HO310, Q_HA_HO310, fun _ => (by repeat (first | (with_reducible first | exact HI0.out | apply IsS74.alloc | apply IsS74.drewN | apply IsS74.drew | apply IsS74.set_1) | exact HI0.out)), fun h0_ => absurd ((hoff 6 (by kernel_rfl)).symm.trans h0_) (by decide)⟩
                      refine steps_cons ?_ ?_
                      · rintro b a w' ⟨v309, adz_v309, m6_, ha, Q_HI0, Q_HK, Q_HB, Q_HO310, Q_HA_HO310, Q_HI0_e5, Q_X6_⟩ hb_ hon hoff
                        refine ⟨_, rfl, fun K hK => ?_⟩
                        have e16 : a.tmps[16]? = some (v309) := by rw [ha]; exact putSel_on (e := (3, 16, v309)) 1 rfl rfl (hon 3 (by kernel_rfl)) rfl
                        have e18 : a.tmps[18]? = some (.int .i64 t311) := by rw [ha]; exact putSel_on (e := (5, 18, .int .i64 t311)) 2 rfl rfl (hon 5 (by kernel_rfl)) rfl
                        replace ha := Aside0.mk ha
                        have HK := Aside0.mk Q_HK
                        have HB := Aside0.mk Q_HB
                        have HO310 := Aside0.mk (Q_HO310 (hon 3 (by kernel_rfl)))
                        have HA_HO310 := Aside0.mk (Q_HA_HO310 (hon 3 (by kernel_rfl)))
                        have HI0 := Aside0.mk (Q_HI0_e5 (hon 5 (by kernel_rfl)))
                        obtain ⟨c_, hv_⟩ := HA_HO310.out
                        rw [hv_] at e16
                        refine value_ (w1 := w') (v := .pointer (some (adz_v309.add (t311).toNat))) (by rfl) rfl ?_ ?_
                        · go_simp
                          (try simp only [i64_w])
                          try rfl
                          all_goals ((try have hc12_ := of_eq_true c12b0); (try have hc13_ := of_eq_true c13b0); (try have hc5_ := of_eq_true c5b0); (try have hc6_ := of_eq_true c6b0); (try simp only [ByteArray.size_append, ByteArray.size_extract] at c10); (try simp only [ByteArray.size_append, ByteArray.size_extract] at c14); omega)
                        refine hK.out _ _ ⟨v309, adz_v309, (.pointer (some (adz_v309.add (t311).toNat))), (by rw [ha.out]; exact putSel_upk 3 hb_ rfl rfl rfl), fun h0_ => absurd ((hon 5 (by kernel_rfl)).symm.trans h0_) (by decide), Q_HK, Q_HB, Q_HO310, Q_HA_HO310, Q_HI0_e5, fun _ => rfl⟩
                      refine steps_cons ?_ ?_
                      · rintro b a w' ⟨v309, adz_v309, m6_, ha, Q_HI0, Q_HK, Q_HB, Q_HO310, Q_HA_HO310, Q_HI0_e5, Q_X6_⟩ hb_ hon hoff
                        refine ⟨_, rfl, fun K hK => ?_⟩
                        have e19 : a.tmps[19]? = some (m6_) := by rw [ha]; exact putSel_on (e := (6, 19, m6_)) 3 rfl rfl (hon 6 (by kernel_rfl)) rfl
                        rw [Q_X6_ (hon 6 (by kernel_rfl))] at e19
                        replace ha := Aside0.mk ha
                        have HK := Aside0.mk Q_HK
                        have HB := Aside0.mk Q_HB
                        have HO310 := Aside0.mk (Q_HO310 (hon 3 (by kernel_rfl)))
                        have HA_HO310 := Aside0.mk (Q_HA_HO310 (hon 3 (by kernel_rfl)))
                        have HI0 := Aside0.mk (Q_HI0_e5 (hon 5 (by kernel_rfl)))
                        obtain ⟨c_, hv_⟩ := HA_HO310.out
                        have hF_ := HO310.out
                        rw [hv_] at hF_
                        obtain ⟨ad_, ea_, hx_⟩ := Kd.at_string (Kd.R_reads' hF_).2.2 t311 (of_eq_true pi313) (of_eq_true qi313)
                        cases ea_
                        refine value_ (w1 := w') (v := .string (rdOf ByteArray.empty y308 t311)) (by rfl) rfl ?_ ?_
                        · go_simp
                          (try simp only [i64_w])
                          try rfl
                          all_goals ((try have hc12_ := of_eq_true c12b0); (try have hc13_ := of_eq_true c13b0); (try have hc5_ := of_eq_true c5b0); (try have hc6_ := of_eq_true c6b0); (try simp only [ByteArray.size_append, ByteArray.size_extract] at c10); (try simp only [ByteArray.size_append, ByteArray.size_extract] at c14); omega)
                        refine hK.out _ _ ⟨v309, adz_v309, m6_, (by rw [ha.out]; exact putSel_upk 4 hb_ rfl rfl rfl), fun h0_ => absurd ((hon 5 (by kernel_rfl)).symm.trans h0_) (by decide), Q_HK, Q_HB, Q_HO310, Q_HA_HO310, Q_HI0_e5, Q_X6_⟩
                      refine steps_cons ?_ ?_
                      · rintro b a w' ⟨v309, adz_v309, m6_, ha, Q_HI0, Q_HK, Q_HB, Q_HO310, Q_HA_HO310, Q_HI0_e5, Q_X6_⟩ hb_ hon hoff
                        refine ⟨_, rfl, fun K hK => ?_⟩
                        have e15 : a.tmps[15]? = some (.string (a1.extract 0 (t306 : Int).toNat)) := by rw [ha]; exact putSel_on (e := (2, 15, .string (a1.extract 0 (t306 : Int).toNat))) 0 rfl rfl (hon 2 (by kernel_rfl)) rfl
                        have e20 : a.tmps[20]? = some (.string (rdOf ByteArray.empty y308 t311)) := by rw [ha]; exact putSel_on (e := (7, 20, .string (rdOf ByteArray.empty y308 t311))) 4 rfl rfl (hon 7 (by kernel_rfl)) rfl
                        replace ha := Aside0.mk ha
                        have HK := Aside0.mk Q_HK
                        have HB := Aside0.mk Q_HB
                        have HO310 := Aside0.mk (Q_HO310 (hon 3 (by kernel_rfl)))
                        have HA_HO310 := Aside0.mk (Q_HA_HO310 (hon 3 (by kernel_rfl)))
                        have HI0 := Aside0.mk (Q_HI0_e5 (hon 5 (by kernel_rfl)))
                        refine value_ (w1 := w') (v := .string ((a1.extract 0 (t306 : Int).toNat) ++ (rdOf ByteArray.empty y308 t311))) (by rfl) rfl ?_ ?_
                        · go_simp
                          (try simp only [i64_w])
                          try rfl
                          all_goals ((try have hc12_ := of_eq_true c12b0); (try have hc13_ := of_eq_true c13b0); (try have hc5_ := of_eq_true c5b0); (try have hc6_ := of_eq_true c6b0); (try simp only [ByteArray.size_append, ByteArray.size_extract] at c10); (try simp only [ByteArray.size_append, ByteArray.size_extract] at c14); omega)
                        refine hK.out _ _ ⟨v309, adz_v309, m6_, (by rw [ha.out]; exact putSel_upk 5 hb_ rfl rfl rfl), fun h0_ => absurd ((hon 5 (by kernel_rfl)).symm.trans h0_) (by decide), Q_HK, Q_HB, Q_HO310, Q_HA_HO310, Q_HI0_e5, Q_X6_⟩
                      refine steps_cons ?_ ?_
                      · rintro b a w' ⟨v309, adz_v309, m6_, ha, Q_HI0, Q_HK, Q_HB, Q_HO310, Q_HA_HO310, Q_HI0_e5, Q_X6_⟩ hb_ hon hoff
                        refine ⟨_, rfl, fun K hK => ?_⟩
                        have e23 : a.tmps[23]? = some (.int .i64 t306) := by rw [ha]; exact (putSel_off rfl).trans rfl
                        replace ha := Aside0.mk ha
                        have HK := Aside0.mk Q_HK
                        have HB := Aside0.mk Q_HB
                        refine value_ (w1 := w') (v := .int .i64 ji11) (by rfl) rfl ?_ ?_
                        · go_simp
                          (try simp only [i64_w])
                          try rfl
                          all_goals ((try have hc12_ := of_eq_true c12b0); (try have hc13_ := of_eq_true c13b0); (try have hc5_ := of_eq_true c5b0); (try have hc6_ := of_eq_true c6b0); (try simp only [ByteArray.size_append, ByteArray.size_extract] at c10); (try simp only [ByteArray.size_append, ByteArray.size_extract] at c14); omega)
                        refine hK.out _ _ ⟨v309, adz_v309, m6_, (by rw [ha.out]; exact putSel_upk 6 hb_ rfl rfl rfl), Q_HI0, Q_HK, Q_HB, Q_HO310, Q_HA_HO310, Q_HI0_e5, Q_X6_⟩
                      refine steps_cons ?_ ?_
                      · rintro b a w' ⟨v309, adz_v309, m6_, ha, Q_HI0, Q_HK, Q_HB, Q_HO310, Q_HA_HO310, Q_HI0_e5, Q_X6_⟩ hb_ hon hoff
                        refine ⟨_, rfl, fun K hK => ?_⟩
                        have e22 : a.tmps[22]? = some (.string a1) := by rw [ha]; exact (putSel_off rfl).trans rfl
                        have e24 : a.tmps[24]? = some (.int .i64 ji11) := by rw [ha]; exact putSel_on (e := (11, 24, .int .i64 ji11)) 6 rfl rfl (hon 11 (by kernel_rfl)) rfl
                        replace ha := Aside0.mk ha
                        have HK := Aside0.mk Q_HK
                        have HB := Aside0.mk Q_HB
                        refine value_ (w1 := w') (v := .string (a1.extract ((ji11) : Int).toNat a1.size)) (by rfl) rfl ?_ ?_
                        · go_simp
                          (try simp only [i64_w])
                          try rfl
                          all_goals ((try have hc12_ := of_eq_true c12b0); (try have hc13_ := of_eq_true c13b0); (try have hc5_ := of_eq_true c5b0); (try have hc6_ := of_eq_true c6b0); (try simp only [ByteArray.size_append, ByteArray.size_extract] at c10); (try simp only [ByteArray.size_append, ByteArray.size_extract] at c14); omega)
                        refine hK.out _ _ ⟨v309, adz_v309, m6_, (by rw [ha.out]; exact putSel_upk 7 hb_ rfl rfl rfl), Q_HI0, Q_HK, Q_HB, Q_HO310, Q_HA_HO310, Q_HI0_e5, Q_X6_⟩
                      refine steps_cons ?_ ?_
                      · rintro b a w' ⟨v309, adz_v309, m6_, ha, Q_HI0, Q_HK, Q_HB, Q_HO310, Q_HA_HO310, Q_HI0_e5, Q_X6_⟩ hb_ hon hoff
                        refine ⟨_, rfl, fun K hK => ?_⟩
                        have e21 : a.tmps[21]? = some (.string ((a1.extract 0 (t306 : Int).toNat) ++ (rdOf ByteArray.empty y308 t311))) := by rw [ha]; exact putSel_on (e := (8, 21, .string ((a1.extract 0 (t306 : Int).toNat) ++ (rdOf ByteArray.empty y308 t311)))) 5 rfl rfl (hon 8 (by kernel_rfl)) rfl
                        have e25 : a.tmps[25]? = some (.string (a1.extract ((ji11) : Int).toNat a1.size)) := by rw [ha]; exact putSel_on (e := (12, 25, .string (a1.extract ((ji11) : Int).toNat a1.size))) 7 rfl rfl (hon 12 (by kernel_rfl)) rfl
                        replace ha := Aside0.mk ha
                        have HK := Aside0.mk Q_HK
                        have HB := Aside0.mk Q_HB
                        have HO310 := Aside0.mk (Q_HO310 (hon 3 (by kernel_rfl)))
                        have HA_HO310 := Aside0.mk (Q_HA_HO310 (hon 3 (by kernel_rfl)))
                        have HI0 := Aside0.mk (Q_HI0_e5 (hon 5 (by kernel_rfl)))
                        refine value_ (w1 := w') (v := .string (((a1.extract 0 (t306 : Int).toNat) ++ (rdOf ByteArray.empty y308 t311)) ++ (a1.extract ((ji11) : Int).toNat a1.size))) (by rfl) rfl ?_ ?_
                        · go_simp
                          (try simp only [i64_w])
                          try rfl
                          all_goals ((try have hc12_ := of_eq_true c12b0); (try have hc13_ := of_eq_true c13b0); (try have hc5_ := of_eq_true c5b0); (try have hc6_ := of_eq_true c6b0); (try simp only [ByteArray.size_append, ByteArray.size_extract] at c10); (try simp only [ByteArray.size_append, ByteArray.size_extract] at c14); omega)
                        refine hK.out _ _ ⟨v309, adz_v309, m6_, (by rw [ha.out]; exact putSel_upk 8 hb_ rfl rfl rfl), fun h0_ => absurd ((hon 5 (by kernel_rfl)).symm.trans h0_) (by decide), Q_HK, Q_HB, Q_HO310, Q_HA_HO310, Q_HI0_e5, Q_X6_⟩
                      refine steps_cons ?_ ?_
                      · rintro b a w' ⟨v309, adz_v309, m6_, ha, Q_HI0, Q_HK, Q_HB, Q_HO310, Q_HA_HO310, Q_HI0_e5, Q_X6_⟩ hb_ hon hoff
                        refine ⟨_, rfl, fun K hK => ?_⟩
                        have e26 : a.tmps[26]? = some (.string (((a1.extract 0 (t306 : Int).toNat) ++ (rdOf ByteArray.empty y308 t311)) ++ (a1.extract ((ji11) : Int).toNat a1.size))) := by rw [ha]; exact putSel_on (e := (13, 26, .string (((a1.extract 0 (t306 : Int).toNat) ++ (rdOf ByteArray.empty y308 t311)) ++ (a1.extract ((ji11) : Int).toNat a1.size)))) 8 rfl rfl (hon 13 (by kernel_rfl)) rfl
                        replace ha := Aside0.mk ha
                        have HK := Aside0.mk Q_HK
                        have HB := Aside0.mk Q_HB
                        have HO310 := Aside0.mk (Q_HO310 (hon 3 (by kernel_rfl)))
                        have HA_HO310 := Aside0.mk (Q_HA_HO310 (hon 3 (by kernel_rfl)))
                        have HI0 := Aside0.mk (Q_HI0_e5 (hon 5 (by kernel_rfl)))
                        refine value_ (w1 := w') (v := .string (((a1.extract 0 (t306 : Int).toNat) ++ (rdOf ByteArray.empty y308 t311)) ++ (a1.extract ((ji11) : Int).toNat a1.size))) (by rfl) rfl ?_ ?_
                        · go_simp
                          (try simp only [i64_w])
                          try rfl
                          all_goals ((try have hc12_ := of_eq_true c12b0); (try have hc13_ := of_eq_true c13b0); (try have hc5_ := of_eq_true c5b0); (try have hc6_ := of_eq_true c6b0); (try simp only [ByteArray.size_append, ByteArray.size_extract] at c10); (try simp only [ByteArray.size_append, ByteArray.size_extract] at c14); omega)
                        refine hK.out _ _ ⟨v309, adz_v309, m6_, (by rw [ha.out]; exact putSel_upk 9 hb_ rfl rfl rfl), fun h0_ => absurd ((hon 5 (by kernel_rfl)).symm.trans h0_) (by decide), Q_HK, Q_HB, Q_HO310, Q_HA_HO310, Q_HI0_e5, Q_X6_⟩
                      exact steps_nil
                    rintro b a w21 hall ⟨v309, adz_v309, m6_, ha, Q_HI0, Q_HK, Q_HB, Q_HO310, Q_HA_HO310, Q_HI0_e5, Q_X6_⟩
                    clear HB HI0 HK
                    have hb2_ := hall 2 (by kernel_rfl)
                    have hb3_ := hall 3 (by kernel_rfl)
                    have hb5_ := hall 5 (by kernel_rfl)
                    have hb6_ := hall 6 (by kernel_rfl)
                    have hb7_ := hall 7 (by kernel_rfl)
                    have hb8_ := hall 8 (by kernel_rfl)
                    have hb11_ := hall 11 (by kernel_rfl)
                    have hb12_ := hall 12 (by kernel_rfl)
                    have hb13_ := hall 13 (by kernel_rfl)
                    have hb14_ := hall 14 (by kernel_rfl)
                    subst ha
                    obtain rfl := Q_X6_ hb6_
                    simp only [putSel, hb2_, hb3_, hb5_, hb6_, hb7_, hb8_, hb11_, hb12_, hb13_, hb14_, if_true, Act.put, List.setIfInBounds_toArray, List.set_cons_zero, List.set_cons_succ]
                    clear Q_HI0
                    have HK := Aside0.mk Q_HK
                    clear Q_HK
                    have HB := Aside0.mk Q_HB
                    clear Q_HB
                    have HO310 := Aside0.mk (Q_HO310 hb3_)
                    clear Q_HO310
                    have HA_HO310 := Aside0.mk (Q_HA_HO310 hb3_)
                    clear Q_HA_HO310
                    have HI0 := Aside0.mk (Q_HI0_e5 hb5_)
                    clear Q_HI0_e5
                    clear hall hb2_ hb3_ hb5_ hb6_ hb7_ hb8_ hb11_ hb12_ hb13_ hb14_
                    obtain ⟨co22, eo22⟩ := HA_HO310.out
                    clear HA_HO310
                    subst eo22
                    try go_wp2
                    go_ret
                    exact ⟨by first | rfl | (simp [errP_none, errP_some] <;> rfl) | (simp only [← hji11]; first | rfl | (simp [errP_none, errP_some] <;> rfl)) | (simp [*, errP_none, errP_some] <;> rfl), by repeat (first | (with_reducible first | exact HI0.out | apply IsS74.alloc | apply IsS74.drewN | apply IsS74.drew | apply IsS74.set_1) | exact HI0.out), by repeat (first | (with_reducible first | exact HB.out | apply below_alloc | apply pw_below_drewN | apply below_drew1 | refine below_set ?_ (IsS74.ge HI0.out)) | exact HB.out), by repeat (first | (with_reducible first | exact HK.out | apply KeepBut.set_ | apply keep_drewN | apply keep_drew | apply keep_alloc) | exact HK.out)⟩
                  · rw [if_neg c14] at H
                    exact absurd H (by simp)
                · rw [if_neg c13] at H
                  exact absurd H (by simp)
              · rw [if_neg c12] at H
                exact absurd H (by simp)
            · rw [if_neg c10] at H
              exact absurd H (by simp)
          · rw [if_neg c9] at H
            exact absurd H (by simp)
        · rw [if_neg c8] at H
          exact absurd H (by simp)
      · rw [if_neg c6] at H
        exact absurd H (by simp)
    · rw [if_neg c5] at H
      exact absurd H (by simp)

/-! ### spec_DrawReadDeed: function 28 -/
def spec_DrawReadDeed.f (k : Nat) (l0 : List Int) : Option (ByteArray) := (spec_l20Open.f l0).bind fun bt314 => ((spec_l20Deed.f k bt314.1 bt314.2).bind fun bt317 => ((spec_DeedText.f k bt317.1 bt317.2.1).bind fun t320 => ((spec_l20Rd_pick.f k bt314.1 bt317.2.2 3).bind fun bt321 => (if bt321.1 = 0 then ((spec_l20Spoil.f k bt314.1 bt321.2 t320).bind fun bt323 => (some bt323.1)) else (some t320)))))
theorem spec_DrawReadDeed.mono : ∀ a0 k, LeO (spec_DrawReadDeed.f k a0) (spec_DrawReadDeed.f (k + 1) a0) := by
  intro a0 k
  unfold spec_DrawReadDeed.f
  repeat' first
      | (with_reducible exact spec_DeedText.mono _ _ _)
      | (with_reducible exact spec_l20Deed.mono _ _ _)
      | (with_reducible exact spec_l20Rd_pick.mono _ _ _ _)
      | (with_reducible exact spec_l20Spoil.mono _ _ _ _)
      | (with_reducible exact LeO.refl _)
      | (with_reducible exact LeO.none _)
      | (with_reducible refine LeO.ite ?_ ?_)
      | (with_reducible refine LeO.bind ?_ (fun _ => ?_))
      | exact spec_DeedText.mono _ _ _
      | exact spec_l20Deed.mono _ _ _
      | exact spec_l20Rd_pick.mono _ _ _ _
      | exact spec_l20Spoil.mono _ _ _ _
      | exact LeO.none _
      | refine LeO.ite ?_ ?_
      | refine LeO.bind ?_ (fun _ => ?_)
set_option maxHeartbeats 8000000 in
set_option maxRecDepth 100000 in
theorem spec_DrawReadDeed.calls (k : Nat) (A0 : Option Addr) (c0 : Nat) (l0 : List Int) (r : ByteArray) (w : World) (hr0 : Kd.C (Kd.int .u8) w A0 l0.length l0) (hc0 : l0.length ≤ c0) (h : spec_DrawReadDeed.f k l0 = some r) :
    Calls Tryd.prog 28 #[.slice A0 l0.length c0] w fun e w' => e = .returned (.string r) ∧ Below w.heap.size w w' := by
  have HR0 := Aside0.mk hr0
  have HC0 := Aside0.mk hc0
  clear hr0 hc0
  have HB := Aside0.mk (Below.refl w.heap.size w)
  have H : ((spec_l20Open.f l0).bind fun bt314 => ((spec_l20Deed.f k bt314.1 bt314.2).bind fun bt317 => ((spec_DeedText.f k bt317.1 bt317.2.1).bind fun t320 => ((spec_l20Rd_pick.f k bt314.1 bt317.2.2 3).bind fun bt321 => (if bt321.1 = 0 then ((spec_l20Spoil.f k bt314.1 bt321.2 t320).bind fun bt323 => (some bt323.1)) else (some t320)))))) = some r := h
  clear h
  replace H := Option.bind_eq_some_iff.mp H
  obtain ⟨⟨t314, t315⟩, A20, H⟩ := H
  replace H : ((spec_l20Deed.f k t314 t315).bind fun bt317 => ((spec_DeedText.f k bt317.1 bt317.2.1).bind fun t320 => ((spec_l20Rd_pick.f k t314 bt317.2.2 3).bind fun bt321 => (if bt321.1 = 0 then ((spec_l20Spoil.f k t314 bt321.2 t320).bind fun bt323 => (some bt323.1)) else (some t320))))) = some r := H
  have A2 := Aside0.mk A20
  clear A20
  replace H := Option.bind_eq_some_iff.mp H
  obtain ⟨⟨t317, t318, t319⟩, A30, H⟩ := H
  replace H : ((spec_DeedText.f k t317 t318).bind fun t320 => ((spec_l20Rd_pick.f k t314 t319 3).bind fun bt321 => (if bt321.1 = 0 then ((spec_l20Spoil.f k t314 bt321.2 t320).bind fun bt323 => (some bt323.1)) else (some t320)))) = some r := H
  have A3 := Aside0.mk A30
  clear A30
  replace H := Option.bind_eq_some_iff.mp H
  obtain ⟨t320, A40, H⟩ := H
  replace H : ((spec_l20Rd_pick.f k t314 t319 3).bind fun bt321 => (if bt321.1 = 0 then ((spec_l20Spoil.f k t314 bt321.2 t320).bind fun bt323 => (some bt323.1)) else (some t320))) = some r := H
  have A4 := Aside0.mk A40
  clear A40
  replace H := Option.bind_eq_some_iff.mp H
  obtain ⟨⟨t321, t322⟩, A50, H⟩ := H
  replace H : (if t321 = 0 then ((spec_l20Spoil.f k t314 t322 t320).bind fun bt323 => (some bt323.1)) else (some t320)) = some r := H
  have A5 := Aside0.mk A50
  clear A50
  by_cases c6 : t321 = 0
  · rw [if_pos c6] at H
    have c6b0 : (t321 == 0) = true := beq_iff_eq.mpr c6
    have c6b1 : (t321 != 0) = false := bne_eq_false_iff_eq.mpr c6
    clear c6
    replace H := Option.bind_eq_some_iff.mp H
    obtain ⟨⟨t323, t324⟩, A70, H⟩ := H
    replace H : (some t323) = some r := H
    have A7 := Aside0.mk A70
    clear A70
    obtain rfl := Option.some.inj H
    go_enter Tryd.func28, Tryd.ntmps28
    go_wp2_with (first | ((with_reducible refine gate_callee (f := 39) rfl ?_); refine goesL_ (some 6) rfl rfl Tryd.func39 (by kernel_rfl) rfl #[.slice A0 l0.length c0] rfl sqA ?_; (with_reducible refine (spec_l20Open.calls _ _ l0 t314 t315 w _ ?side1 ?side2 ?side3 A2.out).mono ?_); (case side1 => repeat (first | (with_reducible first | exact HB.out | apply below_alloc | apply pw_below_drewN | apply below_drew1) | exact HB.out)); (case side2 => exact HR0.out); (case side3 => exact HC0.out); rintro e w8 ⟨g316, rfl, hi, hb, hb2⟩; refine ⟨_, rfl, ?_⟩; replace HB := Aside0.mk (hb); have HI316 := Aside0.mk (hi); (try clear hb)) | ((with_reducible refine gate_callee (f := 38) rfl ?_); refine goesL_ (some 8) rfl rfl Tryd.func38 (by kernel_rfl) rfl #[.pointer (some ⟨g316, 0, none⟩)] rfl sqA ?_; (with_reducible refine (spec_l20Deed.calls k g316 t314 t315 t317 t318 t319 w _ ?side1 ?side2 A3.out).mono ?_); (case side1 => repeat (first | (with_reducible first | exact HI316.out | apply IsS74.alloc | apply IsS74.drewN | apply IsS74.drew | apply IsS74.set_1) | exact HI316.out)); (case side2 => repeat (first | (with_reducible first | exact HB.out | apply below_alloc | apply pw_below_drewN | apply below_drew1 | refine below_set ?_ (IsS74.ge HI316.out)) | exact HB.out)); rintro e w9 ⟨rfl, hi, hb, hk⟩; refine ⟨_, rfl, ?_⟩; replace HB := Aside0.mk (hb); replace HI316 := Aside0.mk (hi); (try clear hb)) | ((with_reducible refine gate_callee (f := 11) rfl ?_); refine goesL_ (some 9) rfl rfl Tryd.func11 (by kernel_rfl) rfl #[.agg #[.int .i64 t317, .string t318]] rfl sqA ?_; (with_reducible refine (spec_DeedText.calls k t317 t318 t320 _ A4.out).mono ?_); rintro e w10 ⟨rfl, hb⟩; refine ⟨_, rfl, ?_⟩; replace HB := Aside0.mk (below_step (by repeat (first | (with_reducible first | exact HB.out | apply below_alloc | apply pw_below_drewN | apply below_drew1 | refine below_set ?_ (IsS74.ge HI316.out)) | exact HB.out)) hb); replace HI316 := Aside0.mk (IsS74.below (by repeat (first | (with_reducible first | exact HI316.out | apply IsS74.alloc | apply IsS74.drewN | apply IsS74.drew | apply IsS74.set_1) | exact HI316.out)) hb); (try clear hb)) | ((with_reducible refine gate_callee (f := 41) rfl ?_); refine goesL_ (some 11) rfl rfl Tryd.func41 (by kernel_rfl) rfl #[.pointer (some ⟨g316, 0, none⟩), .int .i64 3] rfl sqA ?_; (with_reducible refine (spec_l20Rd_pick.calls k g316 t314 t319 3 t321 t322 w _ ?side1 ?side2 A5.out).mono ?_); (case side1 => repeat (first | (with_reducible first | exact HI316.out | apply IsS74.alloc | apply IsS74.drewN | apply IsS74.drew | apply IsS74.set_1) | exact HI316.out)); (case side2 => repeat (first | (with_reducible first | exact HB.out | apply below_alloc | apply pw_below_drewN | apply below_drew1 | refine below_set ?_ (IsS74.ge HI316.out)) | exact HB.out)); rintro e w11 ⟨rfl, hi, hb, hk⟩; refine ⟨_, rfl, ?_⟩; replace HB := Aside0.mk (hb); replace HI316 := Aside0.mk (hi); (try clear hb)) | ((with_reducible refine gate_callee (f := 42) rfl ?_); refine goesL_ (some 15) rfl rfl Tryd.func42 (by kernel_rfl) rfl #[.pointer (some ⟨g316, 0, none⟩), .string t320] rfl sqA ?_; (with_reducible refine (spec_l20Spoil.calls k g316 t314 t322 t320 t323 t324 w _ ?side1 ?side2 A7.out).mono ?_); (case side1 => repeat (first | (with_reducible first | exact HI316.out | apply IsS74.alloc | apply IsS74.drewN | apply IsS74.drew | apply IsS74.set_1) | exact HI316.out)); (case side2 => repeat (first | (with_reducible first | exact HB.out | apply below_alloc | apply pw_below_drewN | apply below_drew1 | refine below_set ?_ (IsS74.ge HI316.out)) | exact HB.out)); rintro e w12 ⟨rfl, hi, hb, hk⟩; refine ⟨_, rfl, ?_⟩; replace HB := Aside0.mk (hb); replace HI316 := Aside0.mk (hi); (try clear hb)))
    go_ret
    exact ⟨by first | rfl | (simp [errP_none, errP_some] <;> rfl) | (simp [*, errP_none, errP_some] <;> rfl), by repeat (first | (with_reducible first | exact HB.out | apply below_alloc | apply pw_below_drewN | apply below_drew1 | refine below_set ?_ (IsS74.ge HI316.out)) | exact HB.out)⟩
  · rw [if_neg c6] at H
    have c6b0 : (t321 == 0) = false := beq_eq_false_iff_ne.mpr c6
    have c6b1 : (t321 != 0) = true := bne_iff_ne.mpr c6
    obtain rfl := Option.some.inj H
    go_enter Tryd.func28, Tryd.ntmps28
    go_wp2_with (first | ((with_reducible refine gate_callee (f := 39) rfl ?_); refine goesL_ (some 6) rfl rfl Tryd.func39 (by kernel_rfl) rfl #[.slice A0 l0.length c0] rfl sqA ?_; (with_reducible refine (spec_l20Open.calls _ _ l0 t314 t315 w _ ?side1 ?side2 ?side3 A2.out).mono ?_); (case side1 => repeat (first | (with_reducible first | exact HB.out | apply below_alloc | apply pw_below_drewN | apply below_drew1) | exact HB.out)); (case side2 => exact HR0.out); (case side3 => exact HC0.out); rintro e w13 ⟨g316, rfl, hi, hb, hb2⟩; refine ⟨_, rfl, ?_⟩; replace HB := Aside0.mk (hb); have HI316 := Aside0.mk (hi); (try clear hb)) | ((with_reducible refine gate_callee (f := 38) rfl ?_); refine goesL_ (some 8) rfl rfl Tryd.func38 (by kernel_rfl) rfl #[.pointer (some ⟨g316, 0, none⟩)] rfl sqA ?_; (with_reducible refine (spec_l20Deed.calls k g316 t314 t315 t317 t318 t319 w _ ?side1 ?side2 A3.out).mono ?_); (case side1 => repeat (first | (with_reducible first | exact HI316.out | apply IsS74.alloc | apply IsS74.drewN | apply IsS74.drew | apply IsS74.set_1) | exact HI316.out)); (case side2 => repeat (first | (with_reducible first | exact HB.out | apply below_alloc | apply pw_below_drewN | apply below_drew1 | refine below_set ?_ (IsS74.ge HI316.out)) | exact HB.out)); rintro e w14 ⟨rfl, hi, hb, hk⟩; refine ⟨_, rfl, ?_⟩; replace HB := Aside0.mk (hb); replace HI316 := Aside0.mk (hi); (try clear hb)) | ((with_reducible refine gate_callee (f := 11) rfl ?_); refine goesL_ (some 9) rfl rfl Tryd.func11 (by kernel_rfl) rfl #[.agg #[.int .i64 t317, .string t318]] rfl sqA ?_; (with_reducible refine (spec_DeedText.calls k t317 t318 t320 _ A4.out).mono ?_); rintro e w15 ⟨rfl, hb⟩; refine ⟨_, rfl, ?_⟩; replace HB := Aside0.mk (below_step (by repeat (first | (with_reducible first | exact HB.out | apply below_alloc | apply pw_below_drewN | apply below_drew1 | refine below_set ?_ (IsS74.ge HI316.out)) | exact HB.out)) hb); replace HI316 := Aside0.mk (IsS74.below (by repeat (first | (with_reducible first | exact HI316.out | apply IsS74.alloc | apply IsS74.drewN | apply IsS74.drew | apply IsS74.set_1) | exact HI316.out)) hb); (try clear hb)) | ((with_reducible refine gate_callee (f := 41) rfl ?_); refine goesL_ (some 11) rfl rfl Tryd.func41 (by kernel_rfl) rfl #[.pointer (some ⟨g316, 0, none⟩), .int .i64 3] rfl sqA ?_; (with_reducible refine (spec_l20Rd_pick.calls k g316 t314 t319 3 t321 t322 w _ ?side1 ?side2 A5.out).mono ?_); (case side1 => repeat (first | (with_reducible first | exact HI316.out | apply IsS74.alloc | apply IsS74.drewN | apply IsS74.drew | apply IsS74.set_1) | exact HI316.out)); (case side2 => repeat (first | (with_reducible first | exact HB.out | apply below_alloc | apply pw_below_drewN | apply below_drew1 | refine below_set ?_ (IsS74.ge HI316.out)) | exact HB.out)); rintro e w16 ⟨rfl, hi, hb, hk⟩; refine ⟨_, rfl, ?_⟩; replace HB := Aside0.mk (hb); replace HI316 := Aside0.mk (hi); (try clear hb)))
    go_ret
    exact ⟨by first | rfl | (simp [errP_none, errP_some] <;> rfl) | (simp [*, errP_none, errP_some] <;> rfl), by repeat (first | (with_reducible first | exact HB.out | apply below_alloc | apply pw_below_drewN | apply below_drew1 | refine below_set ?_ (IsS74.ge HI316.out)) | exact HB.out)⟩

/-! ### laws_FnReadDeed: function 8 -/
def laws_FnReadDeed.j0 : Nat → ByteArray → Bool → Bool → Int → ByteArray → Option (Bool)
  | 0, _, _, _, _, _ => none
  | k + 1, x3, x5, x32, x330000, x330001 => if x32 = true then (some false) else (if x5 = true then (if x3.size + 1 ≤ 9223372036854775807 then ((impl_ReadDeed.f k (x3 ++ (⟨#[32]⟩ : ByteArray))).bind fun bt334 => ((impl_DeedText.f k x330000 x330001).bind fun t338 => (if t338.toList = x3.toList then (some (!bt334.2.2)) else (some false)))) else (none)) else (if (x330000 == 0 && (x330001.toList == ([] : List UInt8))) = true then ((laws_alive.f k).bind fun t339 => (some t339)) else (some false)))
def laws_FnReadDeed.f (k : Nat) (l0 : List Int) : Option (Bool) := if (l0.length : Int) > 1048576 then (some true) else ((spec_DrawReadDeed.f k l0).bind fun t325 => ((impl_ReadDeed.f k t325).bind fun bt326 => ((spec_ReadDeed.f k t325).bind fun bt330 => (if (!(bt326.1 == bt330.1) || (!(bt326.2.1.toList == bt330.2.1.toList))) = true then (laws_FnReadDeed.j0 k t325 bt326.2.2 true bt326.1 bt326.2.1) else (laws_FnReadDeed.j0 k t325 bt326.2.2 (bt326.2.2 != bt330.2.2) bt326.1 bt326.2.1)))))
theorem laws_FnReadDeed.mono_l : ∀ k, (∀ y0 y1 y2 y3 y4, LeO (laws_FnReadDeed.j0 k y0 y1 y2 y3 y4) (laws_FnReadDeed.j0 (k + 1) y0 y1 y2 y3 y4))
  | 0 => fun _ _ _ _ _ r h => by simp [laws_FnReadDeed.j0] at h
  | k + 1 => by
    have ih0 := laws_FnReadDeed.mono_l k
    · intro y0 y1 y2 y3 y4
      unfold laws_FnReadDeed.j0
      repeat' first
      | (with_reducible exact ih0 _ _ _ _ _)
      | (with_reducible exact impl_DeedText.mono _ _ _)
      | (with_reducible exact impl_ReadDeed.mono _ _)
      | (with_reducible exact laws_alive.mono _)
      | (with_reducible exact spec_DrawReadDeed.mono _ _)
      | (with_reducible exact spec_ReadDeed.mono _ _)
      | (with_reducible exact LeO.refl _)
      | (with_reducible exact LeO.none _)
      | (with_reducible refine LeO.ite ?_ ?_)
      | (with_reducible refine LeO.bind ?_ (fun _ => ?_))
      | exact ih0 _ _ _ _ _
      | exact impl_DeedText.mono _ _ _
      | exact impl_ReadDeed.mono _ _
      | exact laws_alive.mono _
      | exact spec_DrawReadDeed.mono _ _
      | exact spec_ReadDeed.mono _ _
      | exact LeO.none _
      | refine LeO.ite ?_ ?_
      | refine LeO.bind ?_ (fun _ => ?_)
theorem laws_FnReadDeed.mono : ∀ a0 k, LeO (laws_FnReadDeed.f k a0) (laws_FnReadDeed.f (k + 1) a0) := by
  intro a0 k
  have ih0 := laws_FnReadDeed.mono_l k
  unfold laws_FnReadDeed.f
  repeat' first
      | (with_reducible exact ih0 _ _ _ _ _)
      | (with_reducible exact impl_DeedText.mono _ _ _)
      | (with_reducible exact impl_ReadDeed.mono _ _)
      | (with_reducible exact laws_alive.mono _)
      | (with_reducible exact spec_DrawReadDeed.mono _ _)
      | (with_reducible exact spec_ReadDeed.mono _ _)
      | (with_reducible exact LeO.refl _)
      | (with_reducible exact LeO.none _)
      | (with_reducible refine LeO.ite ?_ ?_)
      | (with_reducible refine LeO.bind ?_ (fun _ => ?_))
      | exact ih0 _ _ _ _ _
      | exact impl_DeedText.mono _ _ _
      | exact impl_ReadDeed.mono _ _
      | exact laws_alive.mono _
      | exact spec_DrawReadDeed.mono _ _
      | exact spec_ReadDeed.mono _ _
      | exact LeO.none _
      | refine LeO.ite ?_ ?_
      | refine LeO.bind ?_ (fun _ => ?_)
set_option maxHeartbeats 8000000 in
set_option maxRecDepth 100000 in
theorem laws_FnReadDeed.calls (k : Nat) (A0 : Option Addr) (c0 : Nat) (l0 : List Int) (r : Bool) (w : World) (hG : Glob w) (hr0 : Kd.C (Kd.int .u8) w A0 l0.length l0) (hc0 : l0.length ≤ c0) (h : laws_FnReadDeed.f k l0 = some r) :
    Calls Tryd.prog 8 #[.slice A0 l0.length c0] w fun e w' => e = .returned (.bool r) ∧ Below w.heap.size w w' := by
  have hu26 := Tryd.underlying26
  have HR0 := Aside0.mk hr0
  have HC0 := Aside0.mk hc0
  clear hr0 hc0
  have HB := Aside0.mk (Below.refl w.heap.size w)
  have H : (if (l0.length : Int) > 1048576 then (some true) else ((spec_DrawReadDeed.f k l0).bind fun t325 => ((impl_ReadDeed.f k t325).bind fun bt326 => ((spec_ReadDeed.f k t325).bind fun bt330 => (if (!(bt326.1 == bt330.1) || (!(bt326.2.1.toList == bt330.2.1.toList))) = true then (laws_FnReadDeed.j0 k t325 bt326.2.2 true bt326.1 bt326.2.1) else (laws_FnReadDeed.j0 k t325 bt326.2.2 (bt326.2.2 != bt330.2.2) bt326.1 bt326.2.1)))))) = some r := h
  clear h
  by_cases c2 : (l0.length : Int) > 1048576
  · rw [if_pos c2] at H
    have c2b0 : decide (1048576 < (l0.length : Int)) = true := decide_eq_true c2
    have c2b1 : decide (1048576 < l0.length) = true := decide_eq_true (by omega)
    clear c2
    obtain rfl := Option.some.inj H
    go_enter Tryd.func8, Tryd.ntmps8
    go_wp2
    go_ret
    exact ⟨by first | rfl | (simp [errP_none, errP_some] <;> rfl) | (simp [*, errP_none, errP_some] <;> rfl), sqB HB⟩
  · rw [if_neg c2] at H
    have c2b0 : decide (1048576 < (l0.length : Int)) = false := decide_eq_false c2
    have c2b1 : decide (1048576 < l0.length) = false := decide_eq_false (by omega)
    clear c2
    replace H := Option.bind_eq_some_iff.mp H
    obtain ⟨t325, A30, H⟩ := H
    replace H : ((impl_ReadDeed.f k t325).bind fun bt326 => ((spec_ReadDeed.f k t325).bind fun bt330 => (if (!(bt326.1 == bt330.1) || (!(bt326.2.1.toList == bt330.2.1.toList))) = true then (laws_FnReadDeed.j0 k t325 bt326.2.2 true bt326.1 bt326.2.1) else (laws_FnReadDeed.j0 k t325 bt326.2.2 (bt326.2.2 != bt330.2.2) bt326.1 bt326.2.1)))) = some r := H
    have A3 := Aside0.mk A30
    clear A30
    replace H := Option.bind_eq_some_iff.mp H
    obtain ⟨⟨t326, t327, t328⟩, A40, H⟩ := H
    replace H : ((spec_ReadDeed.f k t325).bind fun bt330 => (if (!(t326 == bt330.1) || (!(t327.toList == bt330.2.1.toList))) = true then (laws_FnReadDeed.j0 k t325 t328 true t326 t327) else (laws_FnReadDeed.j0 k t325 t328 (t328 != bt330.2.2) t326 t327))) = some r := H
    have A4 := Aside0.mk A40
    clear A40
    replace H := Option.bind_eq_some_iff.mp H
    obtain ⟨⟨t330, t331, t332⟩, A50, H⟩ := H
    replace H : (if (!(t326 == t330) || (!(t327.toList == t331.toList))) = true then (laws_FnReadDeed.j0 k t325 t328 true t326 t327) else (laws_FnReadDeed.j0 k t325 t328 (t328 != t332) t326 t327)) = some r := H
    have A5 := Aside0.mk A50
    clear A50
    have HC6 := Aside0.mk H
    clear H
    go_enter Tryd.func8, Tryd.ntmps8
    go_upto_region 6 with (first | ((with_reducible refine gate_callee (f := 28) rfl ?_); refine goesL_ (some 14) rfl rfl Tryd.func28 (by kernel_rfl) rfl #[.slice A0 l0.length c0] rfl sqA ?_; (with_reducible refine (spec_DrawReadDeed.calls k _ _ l0 t325 _ ?side1 ?side2 A3.out).mono ?_); (case side1 => repeat (first | exact HR0.out | (with_reducible refine Kd.C_alloc ?_ _) | (with_reducible refine Kd.C_drewN ?_ _) | (with_reducible refine Kd.C_drew ?_))); (case side2 => exact HC0.out); rintro e w7 ⟨rfl, hb⟩; refine ⟨_, rfl, ?_⟩; replace HB := sqS (sqB HB) hb; (try clear hb)) | ((with_reducible refine gate_callee (f := 15) rfl ?_); refine goesL_ (some 17) rfl rfl Tryd.func15 (by kernel_rfl) rfl #[.string t325] rfl sqA ?_; (with_reducible refine (impl_ReadDeed.calls k t325 t326 t327 t328 _ ?sideG A4.out).mono ?_); (case sideG => exact Glob.below hG (sqB HB)); rintro e w8 ⟨rfl, hb⟩; refine ⟨_, rfl, ?_⟩; replace HB := sqS (sqB HB) hb; (try clear hb)) | ((with_reducible refine gate_dst (N := 4) rfl ?_); refine box_event ?hg (N := 4) ?hd (cs := #[.int .i64 0, .string (⟨#[]⟩ : ByteArray)]) (t := 26) ?hr ?_; (case hd => rfl); (case hg => rfl); (case hr => first | (go_simp; done) | (go_simp; rfl)); intro gb329 hg w9 hbox hb; have BK329 := Aside0.mk (hbox); have GW329 := Aside0.mk ((sqG hg (sqB HB))); have GE329 := Aside0.mk ((sqG hg (sqB HB))); replace HB := sqS (sqB HB) hb; clear hb hbox hg; have hcz10_0 := sqZ BK329 0 (.int .i64 0); have hcz10_1 := sqZ BK329 1 (.string (⟨#[]⟩ : ByteArray)); have hfz10_0 := blk_frozen BK329.out 0; have hfz10_1 := blk_frozen BK329.out 1) | ((with_reducible refine gate_callee (f := 14) rfl ?_); refine goesL_ (some 22) rfl rfl Tryd.func14 (by kernel_rfl) rfl #[.string t325] rfl sqA ?_; (with_reducible refine (spec_ReadDeed.calls k t325 t330 t331 t332 _ A5.out).mono ?_); rintro e w11 ⟨rfl, hb⟩; refine ⟨_, rfl, ?_⟩; replace BK329 := Aside0.mk (blk_below (g := gb329) (o := .cells #[.int .i64 t326, .string t327] 26 (0, 0)) (by (with_reducible repeat (first | refine blk_drewN ?_ _ | refine blk_drew ?_ | refine blk_alloc ?_ _)); refine blk_put (cs := #[.int .i64 t326, .string (⟨#[]⟩ : ByteArray)]) ?_ 1 _ rfl; (with_reducible repeat (first | refine blk_drewN ?_ _ | refine blk_drew ?_ | refine blk_alloc ?_ _)); refine blk_put (cs := #[.int .i64 0, .string (⟨#[]⟩ : ByteArray)]) ?_ 0 _ rfl; (with_reducible repeat (first | refine blk_drewN ?_ _ | refine blk_drew ?_ | refine blk_alloc ?_ _)); exact BK329.out) hb); replace HB := sqS (sqB1 HB GE329) hb; (try clear hb)) | ((with_reducible refine gate_dst (N := 6) rfl ?_); refine box_event ?hg (N := 6) ?hd (cs := #[.int .i64 0, .string (⟨#[]⟩ : ByteArray)]) (t := 26) ?hr ?_; (case hd => rfl); (case hg => rfl); (case hr => first | (go_simp; done) | (go_simp; rfl)); intro gb333 hg w12 hbox hb; have BK333 := Aside0.mk (hbox); have GW333 := Aside0.mk ((sqG hg (sqB1 HB GE329))); have GE333 := Aside0.mk ((sqG hg (sqB1 HB GE329))); replace HB := sqS (sqB1 HB GE329) hb; have NB329_333 := Aside0.mk ((by rw [hg]; exact Nat.ne_of_lt (blk_lt (sqK BK329)) : gb329 ≠ gb333)); have NB333_329 := Aside0.mk ((by rw [hg]; exact Nat.ne_of_gt (blk_lt (sqK BK329)) : gb333 ≠ gb329)); replace BK329 := sqT BK329 hb; clear hb hbox hg; have hnb13 := NB333_329.out; have hnc13 := NB329_333.out; have hcz14_0 := sqZ BK333 0 (.int .i64 0); have hcz14_1 := sqZ BK333 1 (.string (⟨#[]⟩ : ByteArray)); have hfz14_0 := blk_frozen BK333.out 0; have hfz14_1 := blk_frozen BK333.out 1))
    (try simp only [Act.put, List.setIfInBounds_toArray, List.set_cons_zero, List.set_cons_succ])
    go_cut [32] (fun v32 wc => ∃ (kq : Nat) (x32_5 : Bool), v32 = .bool x32_5 ∧ Aside0 (laws_FnReadDeed.j0 kq t325 t328 x32_5 t326 t327 = some r) ∧ Aside0 (kq ≤ k) ∧ Aside0 (wc.heap[gb329]? = some (.cells #[.int .i64 t326, .string t327] 26 (0, 0))) ∧ Aside0 (wc.heap[gb333]? = some (.cells #[.int .i64 t330, .string t331] 26 (0, 0))) ∧ Aside0 (Below w.heap.size w wc))
    case first =>
      have H := HC6.out
      clear HC6
      by_cases c15 : (!(t326 == t330) || (!(t327.toList == t331.toList))) = true
      · rw [if_pos c15] at H
        have c15b0 : (!(t326 == t330) || (!(t327.toList == t331.toList))) = true := c15
        clear c15
        (first | rw [c15b0] | (simp only [i64_w, i32_w]; rw [c15b0]) | skip)
        have H' := Aside0.mk H
        clear H
        have hnb16 := NB329_333.out
        have hnc16 := NB333_329.out
        have hcz17_0 := sqZ BK329 0 (.int .i64 t326)
        have hcz17_1 := sqZ BK329 1 (.string t327)
        have hfz17_0 := blk_frozen BK329.out 0
        have hfz17_1 := blk_frozen BK329.out 1
        have hcz18_0 := sqZ BK333 0 (.int .i64 0)
        have hcz18_1 := sqZ BK333 1 (.string (⟨#[]⟩ : ByteArray))
        have hfz18_0 := blk_frozen BK333.out 0
        have hfz18_1 := blk_frozen BK333.out 1
        go_wp2
        go_meet
        case rel => exact ⟨_, (true), (by first | rfl | (simp; done) | (simp [*]; done)), H', ⟨by first | omega | exact Nat.le_refl _⟩, ⟨by (with_reducible repeat (first | refine blk_drewN ?_ _ | refine blk_drew ?_ | refine blk_alloc ?_ _)); refine blk_far ?_ NB329_333.out _; (with_reducible repeat (first | refine blk_drewN ?_ _ | refine blk_drew ?_ | refine blk_alloc ?_ _)); refine blk_far ?_ NB329_333.out _; (with_reducible repeat (first | refine blk_drewN ?_ _ | refine blk_drew ?_ | refine blk_alloc ?_ _)); exact BK329.out⟩, ⟨by (with_reducible repeat (first | refine blk_drewN ?_ _ | refine blk_drew ?_ | refine blk_alloc ?_ _)); refine blk_put (cs := #[.int .i64 t330, .string (⟨#[]⟩ : ByteArray)]) ?_ 1 _ rfl; (with_reducible repeat (first | refine blk_drewN ?_ _ | refine blk_drew ?_ | refine blk_alloc ?_ _)); refine blk_put (cs := #[.int .i64 0, .string (⟨#[]⟩ : ByteArray)]) ?_ 0 _ rfl; (with_reducible repeat (first | refine blk_drewN ?_ _ | refine blk_drew ?_ | refine blk_alloc ?_ _)); exact BK333.out⟩, ⟨sqB2 HB GE329 GE333⟩⟩
      · rw [if_neg c15] at H
        have c15b0 : (!(t326 == t330) || (!(t327.toList == t331.toList))) = false := by simpa using c15
        clear c15
        (first | rw [c15b0] | (simp only [i64_w, i32_w]; rw [c15b0]) | skip)
        have H' := Aside0.mk H
        clear H
        have hnb19 := NB329_333.out
        have hnc19 := NB333_329.out
        have hcz20_0 := sqZ BK329 0 (.int .i64 t326)
        have hcz20_1 := sqZ BK329 1 (.string t327)
        have hfz20_0 := blk_frozen BK329.out 0
        have hfz20_1 := blk_frozen BK329.out 1
        have hcz21_0 := sqZ BK333 0 (.int .i64 0)
        have hcz21_1 := sqZ BK333 1 (.string (⟨#[]⟩ : ByteArray))
        have hfz21_0 := blk_frozen BK333.out 0
        have hfz21_1 := blk_frozen BK333.out 1
        go_wp2
        go_meet
        case rel => exact ⟨_, ((t328 != t332)), (by first | rfl | (simp; done) | (simp [*]; done)), H', ⟨by first | omega | exact Nat.le_refl _⟩, ⟨by (with_reducible repeat (first | refine blk_drewN ?_ _ | refine blk_drew ?_ | refine blk_alloc ?_ _)); refine blk_far ?_ NB329_333.out _; (with_reducible repeat (first | refine blk_drewN ?_ _ | refine blk_drew ?_ | refine blk_alloc ?_ _)); refine blk_far ?_ NB329_333.out _; (with_reducible repeat (first | refine blk_drewN ?_ _ | refine blk_drew ?_ | refine blk_alloc ?_ _)); exact BK329.out⟩, ⟨by (with_reducible repeat (first | refine blk_drewN ?_ _ | refine blk_drew ?_ | refine blk_alloc ?_ _)); refine blk_put (cs := #[.int .i64 t330, .string (⟨#[]⟩ : ByteArray)]) ?_ 1 _ rfl; (with_reducible repeat (first | refine blk_drewN ?_ _ | refine blk_drew ?_ | refine blk_alloc ?_ _)); refine blk_put (cs := #[.int .i64 0, .string (⟨#[]⟩ : ByteArray)]) ?_ 0 _ rfl; (with_reducible repeat (first | refine blk_drewN ?_ _ | refine blk_drew ?_ | refine blk_alloc ?_ _)); exact BK333.out⟩, ⟨sqB2 HB GE329 GE333⟩⟩
    case rest =>
      clear HC6
      try clear c1
      try clear c2
      try clear c2b0
      try clear c2b1
      try clear p2
      try clear c8
      try clear c13
      try clear c14
      try clear c15
      try clear c15b0
      try clear c16
      try clear c19
      try clear hcz10_0
      try clear hcz10_1
      try clear hcz14_0
      try clear hcz14_1
      try clear hcz17_0
      try clear hcz17_1
      try clear hcz18_0
      try clear hcz18_1
      try clear hcz20_0
      try clear hcz20_1
      try clear hcz21_0
      try clear hcz21_1
      try clear hfz10_0
      try clear hfz10_1
      try clear hfz14_0
      try clear hfz14_1
      try clear hfz17_0
      try clear hfz17_1
      try clear hfz18_0
      try clear hfz18_1
      try clear hfz20_0
      try clear hfz20_1
      try clear hfz21_0
      try clear hfz21_1
      obtain ⟨kq, x32_5, rfl, HA, HJ5, BK329, BK333, HB⟩ := hcut
      cases kq with
      | zero => exact absurd HA.out (by simp [laws_FnReadDeed.j0])
      | succ kj5 =>
        have H := HA.out
        clear HA
        simp only [laws_FnReadDeed.j0] at H
        by_cases c22 : x32_5 = true
        · subst c22
          have H1 : (some false) = some r := by rw [if_pos rfl] at H; exact H
          clear H
          have H := H1
          clear H1
          obtain rfl := Option.some.inj H
          go_wp2
          go_ret
          exact ⟨by first | rfl | (simp [errP_none, errP_some] <;> rfl) | (simp [*, errP_none, errP_some] <;> rfl), sqB2 HB GE329 GE333⟩
        · replace c22 := Bool.eq_false_iff.mpr c22
          subst c22
          have H1 : (if t328 = true then (if t325.size + 1 ≤ 9223372036854775807 then ((impl_ReadDeed.f kj5 (t325 ++ (⟨#[32]⟩ : ByteArray))).bind fun bt334 => ((impl_DeedText.f kj5 t326 t327).bind fun t338 => (if t338.toList = t325.toList then (some (!bt334.2.2)) else (some false)))) else (none)) else (if (t326 == 0 && (t327.toList == ([] : List UInt8))) = true then ((laws_alive.f kj5).bind fun t339 => (some t339)) else (some false))) = some r := by rw [if_neg (show ¬ (false = true) by decide)] at H; exact H
          clear H
          have H := H1
          clear H1
          by_cases c23 : t328 = true
          · subst c23
            have H1 : (if t325.size + 1 ≤ 9223372036854775807 then ((impl_ReadDeed.f kj5 (t325 ++ (⟨#[32]⟩ : ByteArray))).bind fun bt334 => ((impl_DeedText.f kj5 t326 t327).bind fun t338 => (if t338.toList = t325.toList then (some (!bt334.2.2)) else (some false)))) else (none)) = some r := by rw [if_pos rfl] at H; exact H
            clear H
            have H := H1
            clear H1
            by_cases c24 : t325.size + 1 ≤ 9223372036854775807
            · rw [if_pos c24] at H
              have c24b0 := eq_true c24
              have c24b1 : decide (t325.size + 1 ≤ 9223372036854775807) = true := decide_eq_true c24
              try have c24b2 : (9223372036854775807 < t325.size + 1) = False := eq_false (Nat.not_lt.2 c24)
              replace H := Option.bind_eq_some_iff.mp H
              obtain ⟨⟨t334, t335, t336⟩, A250, H⟩ := H
              replace H : ((impl_DeedText.f kj5 t326 t327).bind fun t338 => (if t338.toList = t325.toList then (some (!t336)) else (some false))) = some r := H
              have A25 := Aside0.mk A250
              clear A250
              replace H := Option.bind_eq_some_iff.mp H
              obtain ⟨t338, A260, H⟩ := H
              replace H : (if t338.toList = t325.toList then (some (!t336)) else (some false)) = some r := H
              have A26 := Aside0.mk A260
              clear A260
              by_cases c27 : t338.toList = t325.toList
              · rw [if_pos c27] at H
                have c27b0 : (t338.toList == t325.toList) = true := beq_iff_eq.mpr c27
                have c27b1 : (t338.toList != t325.toList) = false := bne_eq_false_iff_eq.mpr c27
                clear c27
                obtain rfl := Option.some.inj H
                go_wp2_with (first | ((with_reducible refine gate_callee (f := 15) rfl ?_); refine goesL_ (some 44) rfl rfl Tryd.func15 (by kernel_rfl) rfl #[.string (t325 ++ (⟨#[32]⟩ : ByteArray))] rfl sqA ?_; (with_reducible refine (impl_ReadDeed.calls kj5 (t325 ++ (⟨#[32]⟩ : ByteArray)) t334 t335 t336 _ ?sideG A25.out).mono ?_); (case sideG => exact Glob.below hG (sqB2 HB GE329 GE333)); rintro e w28 ⟨rfl, hb⟩; refine ⟨_, rfl, ?_⟩; replace BK329 := sqT BK329 hb; replace BK333 := sqT BK333 hb; replace HB := sqS (sqB2 HB GE329 GE333) hb; (try clear hb)) | ((with_reducible refine gate_dst (N := 8) rfl ?_); refine box_event ?hg (N := 8) ?hd (cs := #[.int .i64 0, .string (⟨#[]⟩ : ByteArray)]) (t := 26) ?hr ?_; (case hd => rfl); (case hg => rfl); (case hr => first | (go_simp; done) | (go_simp; rfl)); intro gb337 hg w29 hbox hb; have BK337 := Aside0.mk (hbox); have GW337 := Aside0.mk ((sqG hg (sqB2 HB GE329 GE333))); have GE337 := Aside0.mk ((sqG hg (sqB2 HB GE329 GE333))); replace HB := sqS (sqB2 HB GE329 GE333) hb; have NB329_337 := Aside0.mk ((by rw [hg]; exact Nat.ne_of_lt (blk_lt (sqK BK329)) : gb329 ≠ gb337)); have NB337_329 := Aside0.mk ((by rw [hg]; exact Nat.ne_of_gt (blk_lt (sqK BK329)) : gb337 ≠ gb329)); replace BK329 := sqT BK329 hb; have NB333_337 := Aside0.mk ((by rw [hg]; exact Nat.ne_of_lt (blk_lt (sqK BK333)) : gb333 ≠ gb337)); have NB337_333 := Aside0.mk ((by rw [hg]; exact Nat.ne_of_gt (blk_lt (sqK BK333)) : gb337 ≠ gb333)); replace BK333 := sqT BK333 hb; clear hb hbox hg; have hnb30 := NB337_329.out; have hnc30 := NB329_337.out; have hnb31 := NB337_333.out; have hnc31 := NB333_337.out; have hcz32_0 := sqZ BK337 0 (.int .i64 0); have hcz32_1 := sqZ BK337 1 (.string (⟨#[]⟩ : ByteArray)); have hfz32_0 := blk_frozen BK337.out 0; have hfz32_1 := blk_frozen BK337.out 1; have hnb33 := NB329_333.out; have hnc33 := NB333_329.out; have hcz34_0 := sqZ BK329 0 (.int .i64 t326); have hcz34_1 := sqZ BK329 1 (.string t327); have hfz34_0 := blk_frozen BK329.out 0; have hfz34_1 := blk_frozen BK329.out 1) | ((with_reducible refine gate_callee (f := 13) rfl ?_); refine goesL_ (some 48) rfl rfl Tryd.func13 (by kernel_rfl) rfl #[.agg #[.int .i64 t326, .string t327]] rfl sqA ?_; (with_reducible refine (impl_DeedText.calls kj5 t326 t327 t338 _ ?sideG A26.out).mono ?_); (case sideG => exact Glob.below hG (sqB3 HB GE329 GE333 GE337)); rintro e w35 ⟨rfl, hb⟩; refine ⟨_, rfl, ?_⟩; replace BK329 := Aside0.mk (blk_below (g := gb329) (o := .cells #[.int .i64 t326, .string t327] 26 (0, 0)) (by (with_reducible repeat (first | refine blk_drewN ?_ _ | refine blk_drew ?_ | refine blk_alloc ?_ _)); refine blk_far ?_ NB329_337.out _; (with_reducible repeat (first | refine blk_drewN ?_ _ | refine blk_drew ?_ | refine blk_alloc ?_ _)); refine blk_far ?_ NB329_337.out _; (with_reducible repeat (first | refine blk_drewN ?_ _ | refine blk_drew ?_ | refine blk_alloc ?_ _)); exact BK329.out) hb); replace BK333 := Aside0.mk (blk_below (g := gb333) (o := .cells #[.int .i64 t330, .string t331] 26 (0, 0)) (by (with_reducible repeat (first | refine blk_drewN ?_ _ | refine blk_drew ?_ | refine blk_alloc ?_ _)); refine blk_far ?_ NB333_337.out _; (with_reducible repeat (first | refine blk_drewN ?_ _ | refine blk_drew ?_ | refine blk_alloc ?_ _)); refine blk_far ?_ NB333_337.out _; (with_reducible repeat (first | refine blk_drewN ?_ _ | refine blk_drew ?_ | refine blk_alloc ?_ _)); exact BK333.out) hb); replace BK337 := Aside0.mk (blk_below (g := gb337) (o := .cells #[.int .i64 t334, .string t335] 26 (0, 0)) (by (with_reducible repeat (first | refine blk_drewN ?_ _ | refine blk_drew ?_ | refine blk_alloc ?_ _)); refine blk_put (cs := #[.int .i64 t334, .string (⟨#[]⟩ : ByteArray)]) ?_ 1 _ rfl; (with_reducible repeat (first | refine blk_drewN ?_ _ | refine blk_drew ?_ | refine blk_alloc ?_ _)); refine blk_put (cs := #[.int .i64 0, .string (⟨#[]⟩ : ByteArray)]) ?_ 0 _ rfl; (with_reducible repeat (first | refine blk_drewN ?_ _ | refine blk_drew ?_ | refine blk_alloc ?_ _)); exact BK337.out) hb); replace HB := sqS (sqB3 HB GE329 GE333 GE337) hb; (try clear hb)))
                go_ret
                exact ⟨by first | rfl | (simp [errP_none, errP_some] <;> rfl) | (simp [*, errP_none, errP_some] <;> rfl), sqB3 HB GE329 GE333 GE337⟩
              · rw [if_neg c27] at H
                have c27b0 : (t338.toList == t325.toList) = false := beq_eq_false_iff_ne.mpr c27
                have c27b1 : (t338.toList != t325.toList) = true := bne_iff_ne.mpr c27
                obtain rfl := Option.some.inj H
                go_wp2_with (first | ((with_reducible refine gate_callee (f := 15) rfl ?_); refine goesL_ (some 44) rfl rfl Tryd.func15 (by kernel_rfl) rfl #[.string (t325 ++ (⟨#[32]⟩ : ByteArray))] rfl sqA ?_; (with_reducible refine (impl_ReadDeed.calls kj5 (t325 ++ (⟨#[32]⟩ : ByteArray)) t334 t335 t336 _ ?sideG A25.out).mono ?_); (case sideG => exact Glob.below hG (sqB2 HB GE329 GE333)); rintro e w36 ⟨rfl, hb⟩; refine ⟨_, rfl, ?_⟩; replace BK329 := sqT BK329 hb; replace BK333 := sqT BK333 hb; replace HB := sqS (sqB2 HB GE329 GE333) hb; (try clear hb)) | ((with_reducible refine gate_dst (N := 8) rfl ?_); refine box_event ?hg (N := 8) ?hd (cs := #[.int .i64 0, .string (⟨#[]⟩ : ByteArray)]) (t := 26) ?hr ?_; (case hd => rfl); (case hg => rfl); (case hr => first | (go_simp; done) | (go_simp; rfl)); intro gb337 hg w37 hbox hb; have BK337 := Aside0.mk (hbox); have GW337 := Aside0.mk ((sqG hg (sqB2 HB GE329 GE333))); have GE337 := Aside0.mk ((sqG hg (sqB2 HB GE329 GE333))); replace HB := sqS (sqB2 HB GE329 GE333) hb; have NB329_337 := Aside0.mk ((by rw [hg]; exact Nat.ne_of_lt (blk_lt (sqK BK329)) : gb329 ≠ gb337)); have NB337_329 := Aside0.mk ((by rw [hg]; exact Nat.ne_of_gt (blk_lt (sqK BK329)) : gb337 ≠ gb329)); replace BK329 := sqT BK329 hb; have NB333_337 := Aside0.mk ((by rw [hg]; exact Nat.ne_of_lt (blk_lt (sqK BK333)) : gb333 ≠ gb337)); have NB337_333 := Aside0.mk ((by rw [hg]; exact Nat.ne_of_gt (blk_lt (sqK BK333)) : gb337 ≠ gb333)); replace BK333 := sqT BK333 hb; clear hb hbox hg; have hnb38 := NB337_329.out; have hnc38 := NB329_337.out; have hnb39 := NB337_333.out; have hnc39 := NB333_337.out; have hcz40_0 := sqZ BK337 0 (.int .i64 0); have hcz40_1 := sqZ BK337 1 (.string (⟨#[]⟩ : ByteArray)); have hfz40_0 := blk_frozen BK337.out 0; have hfz40_1 := blk_frozen BK337.out 1; have hnb41 := NB329_333.out; have hnc41 := NB333_329.out; have hcz42_0 := sqZ BK329 0 (.int .i64 t326); have hcz42_1 := sqZ BK329 1 (.string t327); have hfz42_0 := blk_frozen BK329.out 0; have hfz42_1 := blk_frozen BK329.out 1) | ((with_reducible refine gate_callee (f := 13) rfl ?_); refine goesL_ (some 48) rfl rfl Tryd.func13 (by kernel_rfl) rfl #[.agg #[.int .i64 t326, .string t327]] rfl sqA ?_; (with_reducible refine (impl_DeedText.calls kj5 t326 t327 t338 _ ?sideG A26.out).mono ?_); (case sideG => exact Glob.below hG (sqB3 HB GE329 GE333 GE337)); rintro e w43 ⟨rfl, hb⟩; refine ⟨_, rfl, ?_⟩; replace BK329 := Aside0.mk (blk_below (g := gb329) (o := .cells #[.int .i64 t326, .string t327] 26 (0, 0)) (by (with_reducible repeat (first | refine blk_drewN ?_ _ | refine blk_drew ?_ | refine blk_alloc ?_ _)); refine blk_far ?_ NB329_337.out _; (with_reducible repeat (first | refine blk_drewN ?_ _ | refine blk_drew ?_ | refine blk_alloc ?_ _)); refine blk_far ?_ NB329_337.out _; (with_reducible repeat (first | refine blk_drewN ?_ _ | refine blk_drew ?_ | refine blk_alloc ?_ _)); exact BK329.out) hb); replace BK333 := Aside0.mk (blk_below (g := gb333) (o := .cells #[.int .i64 t330, .string t331] 26 (0, 0)) (by (with_reducible repeat (first | refine blk_drewN ?_ _ | refine blk_drew ?_ | refine blk_alloc ?_ _)); refine blk_far ?_ NB333_337.out _; (with_reducible repeat (first | refine blk_drewN ?_ _ | refine blk_drew ?_ | refine blk_alloc ?_ _)); refine blk_far ?_ NB333_337.out _; (with_reducible repeat (first | refine blk_drewN ?_ _ | refine blk_drew ?_ | refine blk_alloc ?_ _)); exact BK333.out) hb); replace BK337 := Aside0.mk (blk_below (g := gb337) (o := .cells #[.int .i64 t334, .string t335] 26 (0, 0)) (by (with_reducible repeat (first | refine blk_drewN ?_ _ | refine blk_drew ?_ | refine blk_alloc ?_ _)); refine blk_put (cs := #[.int .i64 t334, .string (⟨#[]⟩ : ByteArray)]) ?_ 1 _ rfl; (with_reducible repeat (first | refine blk_drewN ?_ _ | refine blk_drew ?_ | refine blk_alloc ?_ _)); refine blk_put (cs := #[.int .i64 0, .string (⟨#[]⟩ : ByteArray)]) ?_ 0 _ rfl; (with_reducible repeat (first | refine blk_drewN ?_ _ | refine blk_drew ?_ | refine blk_alloc ?_ _)); exact BK337.out) hb); replace HB := sqS (sqB3 HB GE329 GE333 GE337) hb; (try clear hb)))
                go_ret
                exact ⟨by first | rfl | (simp [errP_none, errP_some] <;> rfl) | (simp [*, errP_none, errP_some] <;> rfl), sqB3 HB GE329 GE333 GE337⟩
            · rw [if_neg c24] at H
              exact absurd H (by simp)
          · replace c23 := Bool.eq_false_iff.mpr c23
            subst c23
            have H1 : (if (t326 == 0 && (t327.toList == ([] : List UInt8))) = true then ((laws_alive.f kj5).bind fun t339 => (some t339)) else (some false)) = some r := by rw [if_neg (show ¬ (false = true) by decide)] at H; exact H
            clear H
            have H := H1
            clear H1
            by_cases c44 : (t326 == 0 && (t327.toList == ([] : List UInt8))) = true
            · rw [if_pos c44] at H
              have c44b0 : (t326 == 0 && (t327.toList == ([] : List UInt8))) = true := c44
              try have c44b8 : (t326 == 0 && t327.toList.isEmpty) = true := by (have h_ := c44b0; (repeat rw [show ∀ z : List UInt8, (z == ([] : List UInt8)) = z.isEmpty from fun z => by cases z <;> rfl] at h_); exact h_)
              (try (have c44b1 : decide (t326 = 0 && (t327.toList == ([] : List UInt8))) = true := by simpa using c44))
              (try (have c44b2 : (t326 == 0 && (t327.toList == ([] : List UInt8))) = true := by simpa using c44))
              clear c44
              replace H := Option.bind_eq_some_iff.mp H
              obtain ⟨t339, A450, H⟩ := H
              replace H : (some t339) = some r := H
              have A45 := Aside0.mk A450
              clear A450
              obtain rfl := Option.some.inj H
              have hnb46 := NB329_333.out
              have hnc46 := NB333_329.out
              have hcz47_0 := sqZ BK329 0 (.int .i64 t326)
              have hcz47_1 := sqZ BK329 1 (.string t327)
              have hfz47_0 := blk_frozen BK329.out 0
              have hfz47_1 := blk_frozen BK329.out 1
              go_wp2_with (first | (go_at_call 27; (with_reducible refine (laws_alive.calls kj5  t339 _ A45.out).mono ?_); rintro e w48 ⟨rfl, hb⟩; replace BK329 := sqT BK329 hb; replace BK333 := sqT BK333 hb; replace HB := sqS (sqB2 HB GE329 GE333) hb; (try clear hb)))
              go_ret
              exact ⟨by first | rfl | (simp [errP_none, errP_some] <;> rfl) | (simp [*, errP_none, errP_some] <;> rfl), sqB2 HB GE329 GE333⟩
            · rw [if_neg c44] at H
              have c44b0 : (t326 == 0 && (t327.toList == ([] : List UInt8))) = false := by simpa using c44
              try have c44b8 : (t326 == 0 && t327.toList.isEmpty) = false := by (have h_ := c44b0; (repeat rw [show ∀ z : List UInt8, (z == ([] : List UInt8)) = z.isEmpty from fun z => by cases z <;> rfl] at h_); exact h_)
              (try (have c44b1 : decide (t326 = 0 && (t327.toList == ([] : List UInt8))) = false := by simpa using c44))
              (try (have c44b2 : (t326 == 0 && (t327.toList == ([] : List UInt8))) = false := by simpa using c44))
              (try (have c44b3 : ¬ (t326 = 0 && (t327.toList == ([] : List UInt8))) := by simpa using c44))
              clear c44
              obtain rfl := Option.some.inj H
              have hnb49 := NB329_333.out
              have hnc49 := NB333_329.out
              have hcz50_0 := sqZ BK329 0 (.int .i64 t326)
              have hcz50_1 := sqZ BK329 1 (.string t327)
              have hfz50_0 := blk_frozen BK329.out 0
              have hfz50_1 := blk_frozen BK329.out 1
              go_wp2
              go_ret
              exact ⟨by first | rfl | (simp [errP_none, errP_some] <;> rfl) | (simp [*, errP_none, errP_some] <;> rfl), sqB2 HB GE329 GE333⟩

/-- THE ONE PURE STATEMENT of laws_FnReadDeed: yours. -/
def laws_FnReadDeed.Pure : Prop := ∀ (l0 : List Int), l0.length ≤ maxLen → l0.length * 1 ≤ 140737488351232 → (∀ x ∈ l0, (Lit.int .u8 x).wf = true) → ∃ k, laws_FnReadDeed.f k l0 = some true
theorem laws_FnReadDeed.walk (P : laws_FnReadDeed.Pure) (a0 : Option Addr) (len0 cap0 : Nat) (z0 : List Int) (w : World) (hG : Glob w) (w0 : (a0 = none ∧ len0 = 0 ∧ cap0 = 0 ∧ z0 = []) ∨ ∃ x, a0 = some x ∧ len0 ≤ cap0 ∧ cap0 ≤ maxLen ∧ z0.length = cap0 ∧ (∀ i, i < z0.length → w.cell? (x.add i) = some (.int .u8 (z0.getD i 0))) ∧ ∀ n ∈ z0, (Lit.int .u8 n).wf = true) (y0 : len0 * 1 ≤ 140737488351232) :
    Calls Tryd.prog 8 #[.slice a0 len0 cap0] w fun e w' => e = .returned (.bool true) ∧ Below w.heap.size w w' := by
  obtain ⟨l0, rfl, hr0, hm0, hw0, hc0⟩ := ReadsInt.ofRowC w0
  obtain ⟨k, h⟩ := P l0 hm0 y0 hw0
  refine (laws_FnReadDeed.calls k _ _ l0 true w hG (Kd.C_of_reads (d := (0 : Int)) (h1 := fun _ => rfl) hr0) hc0 h).mono ?_
  rintro e w' ⟨rfl, hd⟩
  exact ⟨rfl, hd⟩

end Go.Proofs.YtnojjblkmepblaaDoor.PFnReadDeed
