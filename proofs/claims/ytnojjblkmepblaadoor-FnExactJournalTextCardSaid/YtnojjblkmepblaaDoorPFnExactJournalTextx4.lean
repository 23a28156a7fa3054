/- Lean functions of the Go functions that the law FnExactJournalText reaches, each with its contract: made by a program of this session. -/
import Derived.Test.YtnojjblkmepblaaDoorPFnExactJournalTextx0
import Derived.Test.YtnojjblkmepblaaDoorPFnExactJournalTextx1
import Derived.Test.YtnojjblkmepblaaDoorPFnExactJournalTextx2
import Derived.Test.YtnojjblkmepblaaDoorPFnExactJournalTextx3
namespace Go.Proofs.YtnojjblkmepblaaDoor.PFnExactJournalText
open Go.RowKit Go.Proofs.YtnojjblkmepblaaDoorW.PrintWords Go.Proofs.YtnojjblkmepblaaDoorW.PrintLast Go.Proofs.YtnojjblkmepblaaDoorW.PrintMore Go.Proofs.YtnojjblkmepblaaDoor.Lib
attribute [local go_sem] max2_int min2_int max_two min_two max_three min_three max_four min_four   -- for this text's walks alone
set_option linter.unusedVariables false
set_option linter.unusedSimpArgs false

attribute [local go_sem high] eqA26
/-! ### spec_ReadFraction: function 31 -/
def spec_ReadFraction.f (k : Nat) (a0 : ByteArray) : Option (Int × Int × Bool) := (spec_l1Cut.f k a0 47).bind fun t134 => (if 0 < (t134.length : Int) then ((spec_l1Digits.f k (rdOf ByteArray.empty t134 0)).bind fun bt138 => (if (t134.length : Int) = 2 then (if 1 < (t134.length : Int) then ((spec_l1Digits.f k (rdOf ByteArray.empty t134 1)).bind fun bt141 => (if bt138.2 = true then (if bt141.2 = true then (if (t134.length : Int) > 2 then (some (0, 0, false)) else ((spec_FractionText.f k bt138.1 bt141.1).bind fun t144 => (if t144.toList = a0.toList then (some (bt138.1, bt141.1, true)) else (some (0, 0, false))))) else (some (0, 0, false))) else (some (0, 0, false)))) else (none)) else (if bt138.2 = true then (if (t134.length : Int) > 2 then (some (0, 0, false)) else ((spec_FractionText.f k bt138.1 1).bind fun t147 => (if t147.toList = a0.toList then (some (bt138.1, 1, true)) else (some (0, 0, false))))) else (some (0, 0, false))))) else (none))
theorem spec_ReadFraction.mono : ∀ a0 k, LeO (spec_ReadFraction.f k a0) (spec_ReadFraction.f (k + 1) a0) := by
  intro a0 k
  unfold spec_ReadFraction.f
  repeat' first
      | (with_reducible exact spec_FractionText.mono _ _ _)
      | (with_reducible exact spec_l1Cut.mono _ _ _)
      | (with_reducible exact spec_l1Digits.mono _ _)
      | (with_reducible exact LeO.refl _)
      | (with_reducible exact LeO.none _)
      | (with_reducible refine LeO.ite ?_ ?_)
      | (with_reducible refine LeO.bind ?_ (fun _ => ?_))
      | exact spec_FractionText.mono _ _ _
      | exact spec_l1Cut.mono _ _ _
      | exact spec_l1Digits.mono _ _
      | exact LeO.none _
      | refine LeO.ite ?_ ?_
      | refine LeO.bind ?_ (fun _ => ?_)
set_option maxHeartbeats 8000000 in
set_option maxRecDepth 100000 in
theorem spec_ReadFraction.calls (k : Nat) (a0 : ByteArray) (r1 : Int) (r2 : Int) (r3 : Bool) (w : World) (h : spec_ReadFraction.f k a0 = some (r1, r2, r3)) :
    Calls Tryd.prog 31 #[.string a0] w fun e w' => e = .returned (.tuple #[.agg #[.int .i64 r1, .int .i64 r2], .bool r3]) ∧ Below w.heap.size w w' := by
  have hu50 := Tryd.underlying50
  have HB := Aside0.mk (Below.refl w.heap.size w)
  have H : ((spec_l1Cut.f k a0 47).bind fun t134 => (if 0 < (t134.length : Int) then ((spec_l1Digits.f k (rdOf ByteArray.empty t134 0)).bind fun bt138 => (if (t134.length : Int) = 2 then (if 1 < (t134.length : Int) then ((spec_l1Digits.f k (rdOf ByteArray.empty t134 1)).bind fun bt141 => (if bt138.2 = true then (if bt141.2 = true then (if (t134.length : Int) > 2 then (some (0, 0, false)) else ((spec_FractionText.f k bt138.1 bt141.1).bind fun t144 => (if t144.toList = a0.toList then (some (bt138.1, bt141.1, true)) else (some (0, 0, false))))) else (some (0, 0, false))) else (some (0, 0, false)))) else (none)) else (if bt138.2 = true then (if (t134.length : Int) > 2 then (some (0, 0, false)) else ((spec_FractionText.f k bt138.1 1).bind fun t147 => (if t147.toList = a0.toList then (some (bt138.1, 1, true)) else (some (0, 0, false))))) else (some (0, 0, false))))) else (none))) = some (r1, r2, r3) := h
  clear h
  replace H := Option.bind_eq_some_iff.mp H
  obtain ⟨t134, A20, H⟩ := H
  replace H : (if 0 < (t134.length : Int) then ((spec_l1Digits.f k (rdOf ByteArray.empty t134 0)).bind fun bt138 => (if (t134.length : Int) = 2 then (if 1 < (t134.length : Int) then ((spec_l1Digits.f k (rdOf ByteArray.empty t134 1)).bind fun bt141 => (if bt138.2 = true then (if bt141.2 = true then (if (t134.length : Int) > 2 then (some (0, 0, false)) else ((spec_FractionText.f k bt138.1 bt141.1).bind fun t144 => (if t144.toList = a0.toList then (some (bt138.1, bt141.1, true)) else (some (0, 0, false))))) else (some (0, 0, false))) else (some (0, 0, false)))) else (none)) else (if bt138.2 = true then (if (t134.length : Int) > 2 then (some (0, 0, false)) else ((spec_FractionText.f k bt138.1 1).bind fun t147 => (if t147.toList = a0.toList then (some (bt138.1, 1, true)) else (some (0, 0, false))))) else (some (0, 0, false))))) else (none)) = some (r1, r2, r3) := H
  have A2 := Aside0.mk A20
  clear A20
  by_cases c3 : 0 < (t134.length : Int)
  · rw [if_pos c3] at H
    have c3b0 : decide (0 < (t134.length : Int)) = true := decide_eq_true c3
    have c3b1 : decide (0 < t134.length) = true := decide_eq_true (by omega)
    clear c3
    replace H := Option.bind_eq_some_iff.mp H
    obtain ⟨⟨t138, t139⟩, A40, H⟩ := H
    replace H : (if (t134.length : Int) = 2 then (if 1 < (t134.length : Int) then ((spec_l1Digits.f k (rdOf ByteArray.empty t134 1)).bind fun bt141 => (if t139 = true then (if bt141.2 = true then (if (t134.length : Int) > 2 then (some (0, 0, false)) else ((spec_FractionText.f k t138 bt141.1).bind fun t144 => (if t144.toList = a0.toList then (some (t138, bt141.1, true)) else (some (0, 0, false))))) else (some (0, 0, false))) else (some (0, 0, false)))) else (none)) else (if t139 = true then (if (t134.length : Int) > 2 then (some (0, 0, false)) else ((spec_FractionText.f k t138 1).bind fun t147 => (if t147.toList = a0.toList then (some (t138, 1, true)) else (some (0, 0, false))))) else (some (0, 0, false)))) = some (r1, r2, r3) := H
    have A4 := Aside0.mk A40
    clear A40
    by_cases c5 : (t134.length : Int) = 2
    · rw [if_pos c5] at H
      have c5b0 : ((t134.length : Int) == 2) = true := beq_iff_eq.mpr c5
      have c5b1 : ((t134.length : Int) != 2) = false := bne_eq_false_iff_eq.mpr c5
      clear c5
      by_cases c6 : 1 < (t134.length : Int)
      · rw [if_pos c6] at H
        have c6b0 : decide (1 < (t134.length : Int)) = true := decide_eq_true c6
        have c6b1 : decide (1 < t134.length) = true := decide_eq_true (by omega)
        clear c6
        replace H := Option.bind_eq_some_iff.mp H
        obtain ⟨⟨t141, t142⟩, A70, H⟩ := H
        replace H : (if t139 = true then (if t142 = true then (if (t134.length : Int) > 2 then (some (0, 0, false)) else ((spec_FractionText.f k t138 t141).bind fun t144 => (if t144.toList = a0.toList then (some (t138, t141, true)) else (some (0, 0, false))))) else (some (0, 0, false))) else (some (0, 0, false))) = some (r1, r2, r3) := H
        have A7 := Aside0.mk A70
        clear A70
        by_cases c8 : t139 = true
        · subst c8
          have H1 : (if t142 = true then (if (t134.length : Int) > 2 then (some (0, 0, false)) else ((spec_FractionText.f k t138 t141).bind fun t144 => (if t144.toList = a0.toList then (some (t138, t141, true)) else (some (0, 0, false))))) else (some (0, 0, false))) = some (r1, r2, r3) := by rw [if_pos rfl] at H; exact H
          clear H
          have H := H1
          clear H1
          by_cases c9 : t142 = true
          · subst c9
            have H1 : (if (t134.length : Int) > 2 then (some (0, 0, false)) else ((spec_FractionText.f k t138 t141).bind fun t144 => (if t144.toList = a0.toList then (some (t138, t141, true)) else (some (0, 0, false))))) = some (r1, r2, r3) := by rw [if_pos rfl] at H; exact H
            clear H
            have H := H1
            clear H1
            by_cases c10 : (t134.length : Int) > 2
            · rw [if_pos c10] at H
              have c10b0 : decide (2 < (t134.length : Int)) = true := decide_eq_true c10
              have c10b1 : decide (2 < t134.length) = true := decide_eq_true (by omega)
              clear c10
              simp only [Option.some.injEq, Prod.mk.injEq] at H
              obtain ⟨rfl, rfl, rfl⟩ := H
              go_enter Tryd.func31, Tryd.ntmps31
              go_wp2_with (first | ((with_reducible refine gate_dst (N := 2) rfl ?_); (try (refine gate_guard (by rfl) ?_; dsimp only)); refine box_event ?hg (N := 2) ?hd (cs := #[.int .i64 0, .int .i64 0]) (t := 50) ?hr ?_; (case hd => rfl); (case hg => rfl); (case hr => first | (go_simp; done) | (go_simp; rfl)); intro gb133 hg w11 hbox hb; have BK133 := Aside0.mk (hbox); have GW133 := Aside0.mk (sqG hg (sqB HB)); have GE133 := Aside0.mk (sqG hg (sqB HB)); replace HB := sqS (sqB HB) hb; clear hb hbox hg) | ((with_reducible refine gate_callee (f := 34) rfl ?_); refine goesL_ (some 12) rfl rfl Tryd.func34 (by kernel_rfl) rfl #[.string a0, .int .u8 47] rfl sqA ?_; (with_reducible refine (spec_l1Cut.calls k a0 47 t134 _ A2.out).mono ?_); rintro e w12 ⟨v135, rfl, ho0, hb⟩; refine ⟨_, rfl, ?_⟩; have HO136 := sqL ho0 (sqB1 HB GE133); replace BK133 := sqT BK133 hb; replace HB := sqS (sqB1 HB GE133) hb; (try clear hb); (try clear ho0); obtain ⟨Ao13, co13, eo13⟩ := Kd.R_slice HO136.out; subst eo13; have p137 : 0 ≤ (0 : Int) := (by omega); have q137 : 0 < (t134.length : Int) := of_decide_eq_true (by first | (with_reducible assumption) | assumption); obtain ⟨ad137, e137, hx137_0⟩ := Kd.at_string (Kd.R_reads' HO136.out).2.2 0 p137 q137; cases e137; have qi137 : (0 < t134.length) = True := eq_true (by omega); (try rw [show ((0 : Int)).toNat = 0 from rfl] at hx137_0); (try rw [Addr.add_zero'] at hx137_0); replace p137 := eq_true p137; replace q137 := eq_true q137) | ((with_reducible refine gate_callee (f := 45) rfl ?_); refine goesL_ (some 17) rfl rfl Tryd.func45 (by kernel_rfl) rfl #[.string (rdOf ByteArray.empty t134 0)] rfl sqA ?_; (with_reducible refine (spec_l1Digits.calls k (rdOf ByteArray.empty t134 0) t138 true _ A4.out).mono ?_); rintro e w' ⟨rfl, ⟨nd, rfl⟩⟩; refine ⟨_, rfl, ?_⟩; (try (rw [drewN_self w12]; generalize hq_ : World.drewN w12 _ = w12; have n0_ : Aside0 (Kd.R Kd.string 9 w12 w.heap.size (fun _ => True) (.slice (some ad137) t134.length co13) t134) := ⟨by rw [← hq_]; exact (sqR HO136)⟩; have n1_ : Aside0 (w12.heap[gb133]? = some (.cells #[.int .i64 0, .int .i64 0] 50 (0, 0))) := ⟨by rw [← hq_]; exact (sqK BK133)⟩; have n2_ : Aside0 (Below w.heap.size w w12) := ⟨by rw [← hq_]; exact (sqB1 HB GE133)⟩; clear HO136 BK133 HB hq_; have HO136 := n0_; have BK133 := n1_; have HB := n2_; clear n0_ n1_ n2_)); have p140 : 0 ≤ (1 : Int) := (by omega); have q140 : 1 < (t134.length : Int) := of_decide_eq_true (by first | (with_reducible assumption) | assumption); obtain ⟨ad140, e140, hx140_0⟩ := Kd.at_string (Kd.R_reads' HO136.out).2.2 1 p140 q140; obtain rfl : ad137 = ad140 := (by injection e140); (try simp only [show (1 : Int).toNat = 1 from rfl, Nat.reduceMul, Nat.reduceEqDiff, Go.Addr.add, ↓reduceIte] at hx140_0); have qi140 : (1 < t134.length) = True := eq_true (by omega); (try rw [show ((1 : Int)).toNat = 1 from rfl] at hx140_0); replace p140 := eq_true p140; replace q140 := eq_true q140) | ((with_reducible refine gate_callee (f := 45) rfl ?_); refine goesL_ (some 27) rfl rfl Tryd.func45 (by kernel_rfl) rfl #[.string (rdOf ByteArray.empty t134 1)] rfl sqA ?_; (with_reducible refine (spec_l1Digits.calls k (rdOf ByteArray.empty t134 1) t141 true _ A7.out).mono ?_); rintro e w' ⟨rfl, ⟨nd, rfl⟩⟩; refine ⟨_, rfl, ?_⟩; (try (rw [drewN_self w12]; generalize hq_ : World.drewN w12 _ = w12; have n0_ : Aside0 (Kd.R Kd.string 9 w12 w.heap.size (fun _ => True) (.slice (some ad137) t134.length co13) t134) := ⟨by rw [← hq_]; exact (sqR HO136)⟩; have n1_ : Aside0 (w12.heap[gb133]? = some (.cells #[.int .i64 0, .int .i64 0] 50 (0, 0))) := ⟨by rw [← hq_]; exact (sqK BK133)⟩; have n2_ : Aside0 (Below w.heap.size w w12) := ⟨by rw [← hq_]; exact (sqB1 HB GE133)⟩; clear HO136 BK133 HB hq_; have HO136 := n0_; have BK133 := n1_; have HB := n2_; clear n0_ n1_ n2_))) | ((with_reducible refine gate_dst (N := 10) rfl ?_); (try (refine gate_guard (by rfl) ?_; dsimp only)); refine box_event ?hg (N := 10) ?hd (cs := #[.int .i64 0, .int .i64 0]) (t := 50) ?hr ?_; (case hd => rfl); (case hg => rfl); (case hr => first | (go_simp; done) | (go_simp; rfl)); intro gb143 hg w14 hbox hb; replace HO136 := sqU HO136 hb; have BK143 := Aside0.mk (hbox); have GW143 := Aside0.mk (sqG hg (sqB1 HB GE133)); have GE143 := Aside0.mk (sqG hg (sqB1 HB GE133)); replace HB := sqS (sqB1 HB GE133) hb; have NB133_143 := Aside0.mk ((by rw [hg]; exact Nat.ne_of_lt (blk_lt (sqK BK133)) : gb133 ≠ gb143)); have NB143_133 := Aside0.mk ((by rw [hg]; exact Nat.ne_of_gt (blk_lt (sqK BK133)) : gb143 ≠ gb133)); replace BK133 := sqT BK133 hb; clear hb hbox hg; have hnb15 := NB143_133.out; have hnc15 := NB133_143.out; have hcz16_0 := sqZ BK143 0 (.int .i64 0); have hcz16_1 := sqZ BK143 1 (.int .i64 0); have hfz16_0 := blk_frozen BK143.out 0; have hfz16_1 := blk_frozen BK143.out 1; have hcz17_0 := sqZ BK133 0 (.int .i64 0); have hcz17_1 := sqZ BK133 1 (.int .i64 0); have hfz17_0 := blk_frozen BK133.out 0; have hfz17_1 := blk_frozen BK133.out 1))
              refine bodyPost_ret (results_ct rfl _ _ gb133 50 #[.int .i64 0, .int .i64 0] (0, 0) _ rfl (by (with_reducible repeat (first | refine blk_drewN ?_ _ | refine blk_drew ?_ | refine blk_alloc ?_ _)); refine blk_put (cs := #[.int .i64 0, .int .i64 0]) ?_ 1 _ rfl; (with_reducible repeat (first | refine blk_drewN ?_ _ | refine blk_drew ?_ | refine blk_alloc ?_ _)); refine blk_put (cs := #[.int .i64 0, .int .i64 0]) ?_ 0 _ rfl; (with_reducible repeat (first | refine blk_drewN ?_ _ | refine blk_drew ?_ | refine blk_alloc ?_ _)); refine blk_far ?_ NB133_143.out _; (with_reducible repeat (first | refine blk_drewN ?_ _ | refine blk_drew ?_ | refine blk_alloc ?_ _)); refine blk_far ?_ NB133_143.out _; (with_reducible repeat (first | refine blk_drewN ?_ _ | refine blk_drew ?_ | refine blk_alloc ?_ _)); exact BK133.out) Tryd.underlying50 rfl (by kernel_rfl)) rfl ?_
              exact ⟨by first | rfl | (simp [errP_none, errP_some] <;> rfl) | (simp [*, errP_none, errP_some] <;> rfl), sqB2 HB GE133 GE143⟩
            · rw [if_neg c10] at H
              have c10b0 : decide (2 < (t134.length : Int)) = false := decide_eq_false c10
              have c10b1 : decide (2 < t134.length) = false := decide_eq_false (by omega)
              clear c10
              replace H := Option.bind_eq_some_iff.mp H
              obtain ⟨t144, A180, H⟩ := H
              replace H : (if t144.toList = a0.toList then (some (t138, t141, true)) else (some (0, 0, false))) = some (r1, r2, r3) := H
              have A18 := Aside0.mk A180
              clear A180
              by_cases c19 : t144.toList = a0.toList
              · rw [if_pos c19] at H
                have c19b0 : (t144.toList == a0.toList) = true := beq_iff_eq.mpr c19
                have c19b1 : (t144.toList != a0.toList) = false := bne_eq_false_iff_eq.mpr c19
                clear c19
                simp only [Option.some.injEq, Prod.mk.injEq] at H
                obtain ⟨rfl, rfl, rfl⟩ := H
                go_enter Tryd.func31, Tryd.ntmps31
                go_wp2_with (first | ((with_reducible refine gate_dst (N := 2) rfl ?_); (try (refine gate_guard (by rfl) ?_; dsimp only)); refine box_event ?hg (N := 2) ?hd (cs := #[.int .i64 0, .int .i64 0]) (t := 50) ?hr ?_; (case hd => rfl); (case hg => rfl); (case hr => first | (go_simp; done) | (go_simp; rfl)); intro gb133 hg w20 hbox hb; have BK133 := Aside0.mk (hbox); have GW133 := Aside0.mk (sqG hg (sqB HB)); have GE133 := Aside0.mk (sqG hg (sqB HB)); replace HB := sqS (sqB HB) hb; clear hb hbox hg) | ((with_reducible refine gate_callee (f := 34) rfl ?_); refine goesL_ (some 12) rfl rfl Tryd.func34 (by kernel_rfl) rfl #[.string a0, .int .u8 47] rfl sqA ?_; (with_reducible refine (spec_l1Cut.calls k a0 47 t134 _ A2.out).mono ?_); rintro e w21 ⟨v135, rfl, ho0, hb⟩; refine ⟨_, rfl, ?_⟩; have HO136 := sqL ho0 (sqB1 HB GE133); replace BK133 := sqT BK133 hb; replace HB := sqS (sqB1 HB GE133) hb; (try clear hb); (try clear ho0); obtain ⟨Ao22, co22, eo22⟩ := Kd.R_slice HO136.out; subst eo22; have p137 : 0 ≤ (0 : Int) := (by omega); have q137 : 0 < (t134.length : Int) := of_decide_eq_true (by first | (with_reducible assumption) | assumption); obtain ⟨ad137, e137, hx137_0⟩ := Kd.at_string (Kd.R_reads' HO136.out).2.2 0 p137 q137; cases e137; have qi137 : (0 < t134.length) = True := eq_true (by omega); (try rw [show ((0 : Int)).toNat = 0 from rfl] at hx137_0); (try rw [Addr.add_zero'] at hx137_0); replace p137 := eq_true p137; replace q137 := eq_true q137) | ((with_reducible refine gate_callee (f := 45) rfl ?_); refine goesL_ (some 17) rfl rfl Tryd.func45 (by kernel_rfl) rfl #[.string (rdOf ByteArray.empty t134 0)] rfl sqA ?_; (with_reducible refine (spec_l1Digits.calls k (rdOf ByteArray.empty t134 0) t138 true _ A4.out).mono ?_); rintro e w' ⟨rfl, ⟨nd, rfl⟩⟩; refine ⟨_, rfl, ?_⟩; (try (rw [drewN_self w21]; generalize hq_ : World.drewN w21 _ = w21; have n0_ : Aside0 (Kd.R Kd.string 9 w21 w.heap.size (fun _ => True) (.slice (some ad137) t134.length co22) t134) := ⟨by rw [← hq_]; exact (sqR HO136)⟩; have n1_ : Aside0 (w21.heap[gb133]? = some (.cells #[.int .i64 0, .int .i64 0] 50 (0, 0))) := ⟨by rw [← hq_]; exact (sqK BK133)⟩; have n2_ : Aside0 (Below w.heap.size w w21) := ⟨by rw [← hq_]; exact (sqB1 HB GE133)⟩; clear HO136 BK133 HB hq_; have HO136 := n0_; have BK133 := n1_; have HB := n2_; clear n0_ n1_ n2_)); have p140 : 0 ≤ (1 : Int) := (by omega); have q140 : 1 < (t134.length : Int) := of_decide_eq_true (by first | (with_reducible assumption) | assumption); obtain ⟨ad140, e140, hx140_0⟩ := Kd.at_string (Kd.R_reads' HO136.out).2.2 1 p140 q140; obtain rfl : ad137 = ad140 := (by injection e140); (try simp only [show (1 : Int).toNat = 1 from rfl, Nat.reduceMul, Nat.reduceEqDiff, Go.Addr.add, ↓reduceIte] at hx140_0); have qi140 : (1 < t134.length) = True := eq_true (by omega); (try rw [show ((1 : Int)).toNat = 1 from rfl] at hx140_0); replace p140 := eq_true p140; replace q140 := eq_true q140) | ((with_reducible refine gate_callee (f := 45) rfl ?_); refine goesL_ (some 27) rfl rfl Tryd.func45 (by kernel_rfl) rfl #[.string (rdOf ByteArray.empty t134 1)] rfl sqA ?_; (with_reducible refine (spec_l1Digits.calls k (rdOf ByteArray.empty t134 1) t141 true _ A7.out).mono ?_); rintro e w' ⟨rfl, ⟨nd, rfl⟩⟩; refine ⟨_, rfl, ?_⟩; (try (rw [drewN_self w21]; generalize hq_ : World.drewN w21 _ = w21; have n0_ : Aside0 (Kd.R Kd.string 9 w21 w.heap.size (fun _ => True) (.slice (some ad137) t134.length co22) t134) := ⟨by rw [← hq_]; exact (sqR HO136)⟩; have n1_ : Aside0 (w21.heap[gb133]? = some (.cells #[.int .i64 0, .int .i64 0] 50 (0, 0))) := ⟨by rw [← hq_]; exact (sqK BK133)⟩; have n2_ : Aside0 (Below w.heap.size w w21) := ⟨by rw [← hq_]; exact (sqB1 HB GE133)⟩; clear HO136 BK133 HB hq_; have HO136 := n0_; have BK133 := n1_; have HB := n2_; clear n0_ n1_ n2_))) | ((with_reducible refine gate_dst (N := 10) rfl ?_); (try (refine gate_guard (by rfl) ?_; dsimp only)); refine box_event ?hg (N := 10) ?hd (cs := #[.int .i64 0, .int .i64 0]) (t := 50) ?hr ?_; (case hd => rfl); (case hg => rfl); (case hr => first | (go_simp; done) | (go_simp; rfl)); intro gb143 hg w23 hbox hb; replace HO136 := sqU HO136 hb; have BK143 := Aside0.mk (hbox); have GW143 := Aside0.mk (sqG hg (sqB1 HB GE133)); have GE143 := Aside0.mk (sqG hg (sqB1 HB GE133)); replace HB := sqS (sqB1 HB GE133) hb; have NB133_143 := Aside0.mk ((by rw [hg]; exact Nat.ne_of_lt (blk_lt (sqK BK133)) : gb133 ≠ gb143)); have NB143_133 := Aside0.mk ((by rw [hg]; exact Nat.ne_of_gt (blk_lt (sqK BK133)) : gb143 ≠ gb133)); replace BK133 := sqT BK133 hb; clear hb hbox hg; have hnb24 := NB143_133.out; have hnc24 := NB133_143.out; have hcz25_0 := sqZ BK143 0 (.int .i64 0); have hcz25_1 := sqZ BK143 1 (.int .i64 0); have hfz25_0 := blk_frozen BK143.out 0; have hfz25_1 := blk_frozen BK143.out 1) | (go_at_call 46; (with_reducible refine (spec_FractionText.calls k t138 t141 t144 _ A18.out).mono ?_); rintro e w26 ⟨rfl, hb⟩; replace HO136 := Aside0.mk (Kd.R_below (by (with_reducible repeat (first | apply Kd.R_alloc | apply Kd.R_drewN | apply Kd.R_drew)); exact (Kd.R_mono (Kd.R_far (p := ⟨gb143, 1, none⟩) (Kd.R_far (p := ⟨gb143, 0, none⟩) (Kd.R_types HO136.out BK143.out (by decide)) (fun _ hk => hk.2) (.int .i64 t138)) (fun _ hk => hk.2) (.int .i64 t141)) (fun _ h_ => h_.1))) hb); replace BK133 := Aside0.mk (blk_below (g := gb133) (o := .cells #[.int .i64 0, .int .i64 0] 50 (0, 0)) (by (with_reducible repeat (first | refine blk_drewN ?_ _ | refine blk_drew ?_ | refine blk_alloc ?_ _)); refine blk_far ?_ NB133_143.out _; (with_reducible repeat (first | refine blk_drewN ?_ _ | refine blk_drew ?_ | refine blk_alloc ?_ _)); refine blk_far ?_ NB133_143.out _; (with_reducible repeat (first | refine blk_drewN ?_ _ | refine blk_drew ?_ | refine blk_alloc ?_ _)); exact BK133.out) hb); replace BK143 := Aside0.mk (blk_below (g := gb143) (o := .cells #[.int .i64 t138, .int .i64 t141] 50 (0, 0)) (by (with_reducible repeat (first | refine blk_drewN ?_ _ | refine blk_drew ?_ | refine blk_alloc ?_ _)); refine blk_put (cs := #[.int .i64 t138, .int .i64 0]) ?_ 1 _ rfl; (with_reducible repeat (first | refine blk_drewN ?_ _ | refine blk_drew ?_ | refine blk_alloc ?_ _)); refine blk_put (cs := #[.int .i64 0, .int .i64 0]) ?_ 0 _ rfl; (with_reducible repeat (first | refine blk_drewN ?_ _ | refine blk_drew ?_ | refine blk_alloc ?_ _)); exact BK143.out) hb); replace HB := sqS (sqB2 HB GE133 GE143) hb; (try clear hb); have hcz27_0 := sqZ BK143 0 (.int .i64 t138); have hcz27_1 := sqZ BK143 1 (.int .i64 t141); have hfz27_0 := blk_frozen BK143.out 0; have hfz27_1 := blk_frozen BK143.out 1; have hcz28_0 := sqZ BK133 0 (.int .i64 0); have hcz28_1 := sqZ BK133 1 (.int .i64 0); have hfz28_0 := blk_frozen BK133.out 0; have hfz28_1 := blk_frozen BK133.out 1))
                refine bodyPost_ret (results_ct rfl _ _ gb133 50 #[.int .i64 t138, .int .i64 t141] (0, 0) _ rfl (by (with_reducible repeat (first | refine blk_drewN ?_ _ | refine blk_drew ?_ | refine blk_alloc ?_ _)); refine blk_put (cs := #[.int .i64 t138, .int .i64 0]) ?_ 1 _ rfl; (with_reducible repeat (first | refine blk_drewN ?_ _ | refine blk_drew ?_ | refine blk_alloc ?_ _)); refine blk_put (cs := #[.int .i64 0, .int .i64 0]) ?_ 0 _ rfl; (with_reducible repeat (first | refine blk_drewN ?_ _ | refine blk_drew ?_ | refine blk_alloc ?_ _)); exact BK133.out) Tryd.underlying50 rfl (by kernel_rfl)) rfl ?_
                exact ⟨by first | rfl | (simp [errP_none, errP_some] <;> rfl) | (simp [*, errP_none, errP_some] <;> rfl), sqB2 HB GE133 GE143⟩
              · rw [if_neg c19] at H
                have c19b0 : (t144.toList == a0.toList) = false := beq_eq_false_iff_ne.mpr c19
                have c19b1 : (t144.toList != a0.toList) = true := bne_iff_ne.mpr c19
                simp only [Option.some.injEq, Prod.mk.injEq] at H
                obtain ⟨rfl, rfl, rfl⟩ := H
                go_enter Tryd.func31, Tryd.ntmps31
                go_wp2_with (first | ((with_reducible refine gate_dst (N := 2) rfl ?_); (try (refine gate_guard (by rfl) ?_; dsimp only)); refine box_event ?hg (N := 2) ?hd (cs := #[.int .i64 0, .int .i64 0]) (t := 50) ?hr ?_; (case hd => rfl); (case hg => rfl); (case hr => first | (go_simp; done) | (go_simp; rfl)); intro gb133 hg w29 hbox hb; have BK133 := Aside0.mk (hbox); have GW133 := Aside0.mk (sqG hg (sqB HB)); have GE133 := Aside0.mk (sqG hg (sqB HB)); replace HB := sqS (sqB HB) hb; clear hb hbox hg) | ((with_reducible refine gate_callee (f := 34) rfl ?_); refine goesL_ (some 12) rfl rfl Tryd.func34 (by kernel_rfl) rfl #[.string a0, .int .u8 47] rfl sqA ?_; (with_reducible refine (spec_l1Cut.calls k a0 47 t134 _ A2.out).mono ?_); rintro e w30 ⟨v135, rfl, ho0, hb⟩; refine ⟨_, rfl, ?_⟩; have HO136 := sqL ho0 (sqB1 HB GE133); replace BK133 := sqT BK133 hb; replace HB := sqS (sqB1 HB GE133) hb; (try clear hb); (try clear ho0); obtain ⟨Ao31, co31, eo31⟩ := Kd.R_slice HO136.out; subst eo31; have p137 : 0 ≤ (0 : Int) := (by omega); have q137 : 0 < (t134.length : Int) := of_decide_eq_true (by first | (with_reducible assumption) | assumption); obtain ⟨ad137, e137, hx137_0⟩ := Kd.at_string (Kd.R_reads' HO136.out).2.2 0 p137 q137; cases e137; have qi137 : (0 < t134.length) = True := eq_true (by omega); (try rw [show ((0 : Int)).toNat = 0 from rfl] at hx137_0); (try rw [Addr.add_zero'] at hx137_0); replace p137 := eq_true p137; replace q137 := eq_true q137) | ((with_reducible refine gate_callee (f := 45) rfl ?_); refine goesL_ (some 17) rfl rfl Tryd.func45 (by kernel_rfl) rfl #[.string (rdOf ByteArray.empty t134 0)] rfl sqA ?_; (with_reducible refine (spec_l1Digits.calls k (rdOf ByteArray.empty t134 0) t138 true _ A4.out).mono ?_); rintro e w' ⟨rfl, ⟨nd, rfl⟩⟩; refine ⟨_, rfl, ?_⟩; (try (rw [drewN_self w30]; generalize hq_ : World.drewN w30 _ = w30; have n0_ : Aside0 (Kd.R Kd.string 9 w30 w.heap.size (fun _ => True) (.slice (some ad137) t134.length co31) t134) := ⟨by rw [← hq_]; exact (sqR HO136)⟩; have n1_ : Aside0 (w30.heap[gb133]? = some (.cells #[.int .i64 0, .int .i64 0] 50 (0, 0))) := ⟨by rw [← hq_]; exact (sqK BK133)⟩; have n2_ : Aside0 (Below w.heap.size w w30) := ⟨by rw [← hq_]; exact (sqB1 HB GE133)⟩; clear HO136 BK133 HB hq_; have HO136 := n0_; have BK133 := n1_; have HB := n2_; clear n0_ n1_ n2_)); have p140 : 0 ≤ (1 : Int) := (by omega); have q140 : 1 < (t134.length : Int) := of_decide_eq_true (by first | (with_reducible assumption) | assumption); obtain ⟨ad140, e140, hx140_0⟩ := Kd.at_string (Kd.R_reads' HO136.out).2.2 1 p140 q140; obtain rfl : ad137 = ad140 := (by injection e140); (try simp only [show (1 : Int).toNat = 1 from rfl, Nat.reduceMul, Nat.reduceEqDiff, Go.Addr.add, ↓reduceIte] at hx140_0); have qi140 : (1 < t134.length) = True := eq_true (by omega); (try rw [show ((1 : Int)).toNat = 1 from rfl] at hx140_0); replace p140 := eq_true p140; replace q140 := eq_true q140) | ((with_reducible refine gate_callee (f := 45) rfl ?_); refine goesL_ (some 27) rfl rfl Tryd.func45 (by kernel_rfl) rfl #[.string (rdOf ByteArray.empty t134 1)] rfl sqA ?_; (with_reducible refine (spec_l1Digits.calls k (rdOf ByteArray.empty t134 1) t141 true _ A7.out).mono ?_); rintro e w' ⟨rfl, ⟨nd, rfl⟩⟩; refine ⟨_, rfl, ?_⟩; (try (rw [drewN_self w30]; generalize hq_ : World.drewN w30 _ = w30; have n0_ : Aside0 (Kd.R Kd.string 9 w30 w.heap.size (fun _ => True) (.slice (some ad137) t134.length co31) t134) := ⟨by rw [← hq_]; exact (sqR HO136)⟩; have n1_ : Aside0 (w30.heap[gb133]? = some (.cells #[.int .i64 0, .int .i64 0] 50 (0, 0))) := ⟨by rw [← hq_]; exact (sqK BK133)⟩; have n2_ : Aside0 (Below w.heap.size w w30) := ⟨by rw [← hq_]; exact (sqB1 HB GE133)⟩; clear HO136 BK133 HB hq_; have HO136 := n0_; have BK133 := n1_; have HB := n2_; clear n0_ n1_ n2_))) | ((with_reducible refine gate_dst (N := 10) rfl ?_); (try (refine gate_guard (by rfl) ?_; dsimp only)); refine box_event ?hg (N := 10) ?hd (cs := #[.int .i64 0, .int .i64 0]) (t := 50) ?hr ?_; (case hd => rfl); (case hg => rfl); (case hr => first | (go_simp; done) | (go_simp; rfl)); intro gb143 hg w32 hbox hb; replace HO136 := sqU HO136 hb; have BK143 := Aside0.mk (hbox); have GW143 := Aside0.mk (sqG hg (sqB1 HB GE133)); have GE143 := Aside0.mk (sqG hg (sqB1 HB GE133)); replace HB := sqS (sqB1 HB GE133) hb; have NB133_143 := Aside0.mk ((by rw [hg]; exact Nat.ne_of_lt (blk_lt (sqK BK133)) : gb133 ≠ gb143)); have NB143_133 := Aside0.mk ((by rw [hg]; exact Nat.ne_of_gt (blk_lt (sqK BK133)) : gb143 ≠ gb133)); replace BK133 := sqT BK133 hb; clear hb hbox hg; have hnb33 := NB143_133.out; have hnc33 := NB133_143.out; have hcz34_0 := sqZ BK143 0 (.int .i64 0); have hcz34_1 := sqZ BK143 1 (.int .i64 0); have hfz34_0 := blk_frozen BK143.out 0; have hfz34_1 := blk_frozen BK143.out 1) | (go_at_call 46; (with_reducible refine (spec_FractionText.calls k t138 t141 t144 _ A18.out).mono ?_); rintro e w35 ⟨rfl, hb⟩; replace HO136 := Aside0.mk (Kd.R_below (by (with_reducible repeat (first | apply Kd.R_alloc | apply Kd.R_drewN | apply Kd.R_drew)); exact (Kd.R_mono (Kd.R_far (p := ⟨gb143, 1, none⟩) (Kd.R_far (p := ⟨gb143, 0, none⟩) (Kd.R_types HO136.out BK143.out (by decide)) (fun _ hk => hk.2) (.int .i64 t138)) (fun _ hk => hk.2) (.int .i64 t141)) (fun _ h_ => h_.1))) hb); replace BK133 := Aside0.mk (blk_below (g := gb133) (o := .cells #[.int .i64 0, .int .i64 0] 50 (0, 0)) (by (with_reducible repeat (first | refine blk_drewN ?_ _ | refine blk_drew ?_ | refine blk_alloc ?_ _)); refine blk_far ?_ NB133_143.out _; (with_reducible repeat (first | refine blk_drewN ?_ _ | refine blk_drew ?_ | refine blk_alloc ?_ _)); refine blk_far ?_ NB133_143.out _; (with_reducible repeat (first | refine blk_drewN ?_ _ | refine blk_drew ?_ | refine blk_alloc ?_ _)); exact BK133.out) hb); replace BK143 := Aside0.mk (blk_below (g := gb143) (o := .cells #[.int .i64 t138, .int .i64 t141] 50 (0, 0)) (by (with_reducible repeat (first | refine blk_drewN ?_ _ | refine blk_drew ?_ | refine blk_alloc ?_ _)); refine blk_put (cs := #[.int .i64 t138, .int .i64 0]) ?_ 1 _ rfl; (with_reducible repeat (first | refine blk_drewN ?_ _ | refine blk_drew ?_ | refine blk_alloc ?_ _)); refine blk_put (cs := #[.int .i64 0, .int .i64 0]) ?_ 0 _ rfl; (with_reducible repeat (first | refine blk_drewN ?_ _ | refine blk_drew ?_ | refine blk_alloc ?_ _)); exact BK143.out) hb); replace HB := sqS (sqB2 HB GE133 GE143) hb; (try clear hb); have hcz36_0 := sqZ BK133 0 (.int .i64 0); have hcz36_1 := sqZ BK133 1 (.int .i64 0); have hfz36_0 := blk_frozen BK133.out 0; have hfz36_1 := blk_frozen BK133.out 1))
                refine bodyPost_ret (results_ct rfl _ _ gb133 50 #[.int .i64 0, .int .i64 0] (0, 0) _ rfl (by (with_reducible repeat (first | refine blk_drewN ?_ _ | refine blk_drew ?_ | refine blk_alloc ?_ _)); refine blk_put (cs := #[.int .i64 0, .int .i64 0]) ?_ 1 _ rfl; (with_reducible repeat (first | refine blk_drewN ?_ _ | refine blk_drew ?_ | refine blk_alloc ?_ _)); refine blk_put (cs := #[.int .i64 0, .int .i64 0]) ?_ 0 _ rfl; (with_reducible repeat (first | refine blk_drewN ?_ _ | refine blk_drew ?_ | refine blk_alloc ?_ _)); exact BK133.out) Tryd.underlying50 rfl (by kernel_rfl)) rfl ?_
                exact ⟨by first | rfl | (simp [errP_none, errP_some] <;> rfl) | (simp [*, errP_none, errP_some] <;> rfl), sqB2 HB GE133 GE143⟩
          · replace c9 := Bool.eq_false_iff.mpr c9
            subst c9
            have H1 : (some (0, 0, false)) = some (r1, r2, r3) := by rw [if_neg (show ¬ (false = true) by decide)] at H; exact H
            clear H
            have H := H1
            clear H1
            simp only [Option.some.injEq, Prod.mk.injEq] at H
            obtain ⟨rfl, rfl, rfl⟩ := H
            go_enter Tryd.func31, Tryd.ntmps31
            go_wp2_with (first | ((with_reducible refine gate_dst (N := 2) rfl ?_); (try (refine gate_guard (by rfl) ?_; dsimp only)); refine box_event ?hg (N := 2) ?hd (cs := #[.int .i64 0, .int .i64 0]) (t := 50) ?hr ?_; (case hd => rfl); (case hg => rfl); (case hr => first | (go_simp; done) | (go_simp; rfl)); intro gb133 hg w37 hbox hb; have BK133 := Aside0.mk (hbox); have GW133 := Aside0.mk (sqG hg (sqB HB)); have GE133 := Aside0.mk (sqG hg (sqB HB)); replace HB := sqS (sqB HB) hb; clear hb hbox hg) | ((with_reducible refine gate_callee (f := 34) rfl ?_); refine goesL_ (some 12) rfl rfl Tryd.func34 (by kernel_rfl) rfl #[.string a0, .int .u8 47] rfl sqA ?_; (with_reducible refine (spec_l1Cut.calls k a0 47 t134 _ A2.out).mono ?_); rintro e w38 ⟨v135, rfl, ho0, hb⟩; refine ⟨_, rfl, ?_⟩; have HO136 := sqL ho0 (sqB1 HB GE133); replace BK133 := sqT BK133 hb; replace HB := sqS (sqB1 HB GE133) hb; (try clear hb); (try clear ho0); obtain ⟨Ao39, co39, eo39⟩ := Kd.R_slice HO136.out; subst eo39; have p137 : 0 ≤ (0 : Int) := (by omega); have q137 : 0 < (t134.length : Int) := of_decide_eq_true (by first | (with_reducible assumption) | assumption); obtain ⟨ad137, e137, hx137_0⟩ := Kd.at_string (Kd.R_reads' HO136.out).2.2 0 p137 q137; cases e137; have qi137 : (0 < t134.length) = True := eq_true (by omega); (try rw [show ((0 : Int)).toNat = 0 from rfl] at hx137_0); (try rw [Addr.add_zero'] at hx137_0); replace p137 := eq_true p137; replace q137 := eq_true q137) | ((with_reducible refine gate_callee (f := 45) rfl ?_); refine goesL_ (some 17) rfl rfl Tryd.func45 (by kernel_rfl) rfl #[.string (rdOf ByteArray.empty t134 0)] rfl sqA ?_; (with_reducible refine (spec_l1Digits.calls k (rdOf ByteArray.empty t134 0) t138 true _ A4.out).mono ?_); rintro e w' ⟨rfl, ⟨nd, rfl⟩⟩; refine ⟨_, rfl, ?_⟩; (try (rw [drewN_self w38]; generalize hq_ : World.drewN w38 _ = w38; have n0_ : Aside0 (Kd.R Kd.string 9 w38 w.heap.size (fun _ => True) (.slice (some ad137) t134.length co39) t134) := ⟨by rw [← hq_]; exact (sqR HO136)⟩; have n1_ : Aside0 (w38.heap[gb133]? = some (.cells #[.int .i64 0, .int .i64 0] 50 (0, 0))) := ⟨by rw [← hq_]; exact (sqK BK133)⟩; have n2_ : Aside0 (Below w.heap.size w w38) := ⟨by rw [← hq_]; exact (sqB1 HB GE133)⟩; clear HO136 BK133 HB hq_; have HO136 := n0_; have BK133 := n1_; have HB := n2_; clear n0_ n1_ n2_)); have p140 : 0 ≤ (1 : Int) := (by omega); have q140 : 1 < (t134.length : Int) := of_decide_eq_true (by first | (with_reducible assumption) | assumption); obtain ⟨ad140, e140, hx140_0⟩ := Kd.at_string (Kd.R_reads' HO136.out).2.2 1 p140 q140; obtain rfl : ad137 = ad140 := (by injection e140); (try simp only [show (1 : Int).toNat = 1 from rfl, Nat.reduceMul, Nat.reduceEqDiff, Go.Addr.add, ↓reduceIte] at hx140_0); have qi140 : (1 < t134.length) = True := eq_true (by omega); (try rw [show ((1 : Int)).toNat = 1 from rfl] at hx140_0); replace p140 := eq_true p140; replace q140 := eq_true q140) | ((with_reducible refine gate_callee (f := 45) rfl ?_); refine goesL_ (some 27) rfl rfl Tryd.func45 (by kernel_rfl) rfl #[.string (rdOf ByteArray.empty t134 1)] rfl sqA ?_; (with_reducible refine (spec_l1Digits.calls k (rdOf ByteArray.empty t134 1) t141 false _ A7.out).mono ?_); rintro e w' ⟨rfl, ⟨nd, rfl⟩⟩; refine ⟨_, rfl, ?_⟩; (try (rw [drewN_self w38]; generalize hq_ : World.drewN w38 _ = w38; have n0_ : Aside0 (Kd.R Kd.string 9 w38 w.heap.size (fun _ => True) (.slice (some ad137) t134.length co39) t134) := ⟨by rw [← hq_]; exact (sqR HO136)⟩; have n1_ : Aside0 (w38.heap[gb133]? = some (.cells #[.int .i64 0, .int .i64 0] 50 (0, 0))) := ⟨by rw [← hq_]; exact (sqK BK133)⟩; have n2_ : Aside0 (Below w.heap.size w w38) := ⟨by rw [← hq_]; exact (sqB1 HB GE133)⟩; clear HO136 BK133 HB hq_; have HO136 := n0_; have BK133 := n1_; have HB := n2_; clear n0_ n1_ n2_))) | ((with_reducible refine gate_dst (N := 10) rfl ?_); (try (refine gate_guard (by rfl) ?_; dsimp only)); refine box_event ?hg (N := 10) ?hd (cs := #[.int .i64 0, .int .i64 0]) (t := 50) ?hr ?_; (case hd => rfl); (case hg => rfl); (case hr => first | (go_simp; done) | (go_simp; rfl)); intro gb143 hg w40 hbox hb; replace HO136 := sqU HO136 hb; have BK143 := Aside0.mk (hbox); have GW143 := Aside0.mk (sqG hg (sqB1 HB GE133)); have GE143 := Aside0.mk (sqG hg (sqB1 HB GE133)); replace HB := sqS (sqB1 HB GE133) hb; have NB133_143 := Aside0.mk ((by rw [hg]; exact Nat.ne_of_lt (blk_lt (sqK BK133)) : gb133 ≠ gb143)); have NB143_133 := Aside0.mk ((by rw [hg]; exact Nat.ne_of_gt (blk_lt (sqK BK133)) : gb143 ≠ gb133)); replace BK133 := sqT BK133 hb; clear hb hbox hg; have hnb41 := NB143_133.out; have hnc41 := NB133_143.out; have hcz42_0 := sqZ BK143 0 (.int .i64 0); have hcz42_1 := sqZ BK143 1 (.int .i64 0); have hfz42_0 := blk_frozen BK143.out 0; have hfz42_1 := blk_frozen BK143.out 1; have hcz43_0 := sqZ BK133 0 (.int .i64 0); have hcz43_1 := sqZ BK133 1 (.int .i64 0); have hfz43_0 := blk_frozen BK133.out 0; have hfz43_1 := blk_frozen BK133.out 1))
            refine bodyPost_ret (results_ct rfl _ _ gb133 50 #[.int .i64 0, .int .i64 0] (0, 0) _ rfl (by (with_reducible repeat (first | refine blk_drewN ?_ _ | refine blk_drew ?_ | refine blk_alloc ?_ _)); refine blk_put (cs := #[.int .i64 0, .int .i64 0]) ?_ 1 _ rfl; (with_reducible repeat (first | refine blk_drewN ?_ _ | refine blk_drew ?_ | refine blk_alloc ?_ _)); refine blk_put (cs := #[.int .i64 0, .int .i64 0]) ?_ 0 _ rfl; (with_reducible repeat (first | refine blk_drewN ?_ _ | refine blk_drew ?_ | refine blk_alloc ?_ _)); refine blk_far ?_ NB133_143.out _; (with_reducible repeat (first | refine blk_drewN ?_ _ | refine blk_drew ?_ | refine blk_alloc ?_ _)); refine blk_far ?_ NB133_143.out _; (with_reducible repeat (first | refine blk_drewN ?_ _ | refine blk_drew ?_ | refine blk_alloc ?_ _)); exact BK133.out) Tryd.underlying50 rfl (by kernel_rfl)) rfl ?_
            exact ⟨by first | rfl | (simp [errP_none, errP_some] <;> rfl) | (simp [*, errP_none, errP_some] <;> rfl), sqB2 HB GE133 GE143⟩
        · replace c8 := Bool.eq_false_iff.mpr c8
          subst c8
          have H1 : (some (0, 0, false)) = some (r1, r2, r3) := by rw [if_neg (show ¬ (false = true) by decide)] at H; exact H
          clear H
          have H := H1
          clear H1
          simp only [Option.some.injEq, Prod.mk.injEq] at H
          obtain ⟨rfl, rfl, rfl⟩ := H
          go_enter Tryd.func31, Tryd.ntmps31
          go_wp2_with (first | ((with_reducible refine gate_dst (N := 2) rfl ?_); (try (refine gate_guard (by rfl) ?_; dsimp only)); refine box_event ?hg (N := 2) ?hd (cs := #[.int .i64 0, .int .i64 0]) (t := 50) ?hr ?_; (case hd => rfl); (case hg => rfl); (case hr => first | (go_simp; done) | (go_simp; rfl)); intro gb133 hg w44 hbox hb; have BK133 := Aside0.mk (hbox); have GW133 := Aside0.mk (sqG hg (sqB HB)); have GE133 := Aside0.mk (sqG hg (sqB HB)); replace HB := sqS (sqB HB) hb; clear hb hbox hg) | ((with_reducible refine gate_callee (f := 34) rfl ?_); refine goesL_ (some 12) rfl rfl Tryd.func34 (by kernel_rfl) rfl #[.string a0, .int .u8 47] rfl sqA ?_; (with_reducible refine (spec_l1Cut.calls k a0 47 t134 _ A2.out).mono ?_); rintro e w45 ⟨v135, rfl, ho0, hb⟩; refine ⟨_, rfl, ?_⟩; have HO136 := sqL ho0 (sqB1 HB GE133); replace BK133 := sqT BK133 hb; replace HB := sqS (sqB1 HB GE133) hb; (try clear hb); (try clear ho0); obtain ⟨Ao46, co46, eo46⟩ := Kd.R_slice HO136.out; subst eo46; have p137 : 0 ≤ (0 : Int) := (by omega); have q137 : 0 < (t134.length : Int) := of_decide_eq_true (by first | (with_reducible assumption) | assumption); obtain ⟨ad137, e137, hx137_0⟩ := Kd.at_string (Kd.R_reads' HO136.out).2.2 0 p137 q137; cases e137; have qi137 : (0 < t134.length) = True := eq_true (by omega); (try rw [show ((0 : Int)).toNat = 0 from rfl] at hx137_0); (try rw [Addr.add_zero'] at hx137_0); replace p137 := eq_true p137; replace q137 := eq_true q137) | ((with_reducible refine gate_callee (f := 45) rfl ?_); refine goesL_ (some 17) rfl rfl Tryd.func45 (by kernel_rfl) rfl #[.string (rdOf ByteArray.empty t134 0)] rfl sqA ?_; (with_reducible refine (spec_l1Digits.calls k (rdOf ByteArray.empty t134 0) t138 false _ A4.out).mono ?_); rintro e w' ⟨rfl, ⟨nd, rfl⟩⟩; refine ⟨_, rfl, ?_⟩; (try (rw [drewN_self w45]; generalize hq_ : World.drewN w45 _ = w45; have n0_ : Aside0 (Kd.R Kd.string 9 w45 w.heap.size (fun _ => True) (.slice (some ad137) t134.length co46) t134) := ⟨by rw [← hq_]; exact (sqR HO136)⟩; have n1_ : Aside0 (w45.heap[gb133]? = some (.cells #[.int .i64 0, .int .i64 0] 50 (0, 0))) := ⟨by rw [← hq_]; exact (sqK BK133)⟩; have n2_ : Aside0 (Below w.heap.size w w45) := ⟨by rw [← hq_]; exact (sqB1 HB GE133)⟩; clear HO136 BK133 HB hq_; have HO136 := n0_; have BK133 := n1_; have HB := n2_; clear n0_ n1_ n2_)); have p140 : 0 ≤ (1 : Int) := (by omega); have q140 : 1 < (t134.length : Int) := of_decide_eq_true (by first | (with_reducible assumption) | assumption); obtain ⟨ad140, e140, hx140_0⟩ := Kd.at_string (Kd.R_reads' HO136.out).2.2 1 p140 q140; obtain rfl : ad137 = ad140 := (by injection e140); (try simp only [show (1 : Int).toNat = 1 from rfl, Nat.reduceMul, Nat.reduceEqDiff, Go.Addr.add, ↓reduceIte] at hx140_0); have qi140 : (1 < t134.length) = True := eq_true (by omega); (try rw [show ((1 : Int)).toNat = 1 from rfl] at hx140_0); replace p140 := eq_true p140; replace q140 := eq_true q140) | ((with_reducible refine gate_callee (f := 45) rfl ?_); refine goesL_ (some 27) rfl rfl Tryd.func45 (by kernel_rfl) rfl #[.string (rdOf ByteArray.empty t134 1)] rfl sqA ?_; (with_reducible refine (spec_l1Digits.calls k (rdOf ByteArray.empty t134 1) t141 t142 _ A7.out).mono ?_); rintro e w' ⟨rfl, ⟨nd, rfl⟩⟩; refine ⟨_, rfl, ?_⟩; (try (rw [drewN_self w45]; generalize hq_ : World.drewN w45 _ = w45; have n0_ : Aside0 (Kd.R Kd.string 9 w45 w.heap.size (fun _ => True) (.slice (some ad137) t134.length co46) t134) := ⟨by rw [← hq_]; exact (sqR HO136)⟩; have n1_ : Aside0 (w45.heap[gb133]? = some (.cells #[.int .i64 0, .int .i64 0] 50 (0, 0))) := ⟨by rw [← hq_]; exact (sqK BK133)⟩; have n2_ : Aside0 (Below w.heap.size w w45) := ⟨by rw [← hq_]; exact (sqB1 HB GE133)⟩; clear HO136 BK133 HB hq_; have HO136 := n0_; have BK133 := n1_; have HB := n2_; clear n0_ n1_ n2_))) | ((with_reducible refine gate_dst (N := 10) rfl ?_); (try (refine gate_guard (by rfl) ?_; dsimp only)); refine box_event ?hg (N := 10) ?hd (cs := #[.int .i64 0, .int .i64 0]) (t := 50) ?hr ?_; (case hd => rfl); (case hg => rfl); (case hr => first | (go_simp; done) | (go_simp; rfl)); intro gb145 hg w47 hbox hb; replace HO136 := sqU HO136 hb; have BK145 := Aside0.mk (hbox); have GW145 := Aside0.mk (sqG hg (sqB1 HB GE133)); have GE145 := Aside0.mk (sqG hg (sqB1 HB GE133)); replace HB := sqS (sqB1 HB GE133) hb; have NB133_145 := Aside0.mk ((by rw [hg]; exact Nat.ne_of_lt (blk_lt (sqK BK133)) : gb133 ≠ gb145)); have NB145_133 := Aside0.mk ((by rw [hg]; exact Nat.ne_of_gt (blk_lt (sqK BK133)) : gb145 ≠ gb133)); replace BK133 := sqT BK133 hb; clear hb hbox hg; have hnb48 := NB145_133.out; have hnc48 := NB133_145.out; have hcz49_0 := sqZ BK145 0 (.int .i64 0); have hcz49_1 := sqZ BK145 1 (.int .i64 0); have hfz49_0 := blk_frozen BK145.out 0; have hfz49_1 := blk_frozen BK145.out 1; have hcz50_0 := sqZ BK133 0 (.int .i64 0); have hcz50_1 := sqZ BK133 1 (.int .i64 0); have hfz50_0 := blk_frozen BK133.out 0; have hfz50_1 := blk_frozen BK133.out 1))
          refine bodyPost_ret (results_ct rfl _ _ gb133 50 #[.int .i64 0, .int .i64 0] (0, 0) _ rfl (by (with_reducible repeat (first | refine blk_drewN ?_ _ | refine blk_drew ?_ | refine blk_alloc ?_ _)); refine blk_put (cs := #[.int .i64 0, .int .i64 0]) ?_ 1 _ rfl; (with_reducible repeat (first | refine blk_drewN ?_ _ | refine blk_drew ?_ | refine blk_alloc ?_ _)); refine blk_put (cs := #[.int .i64 0, .int .i64 0]) ?_ 0 _ rfl; (with_reducible repeat (first | refine blk_drewN ?_ _ | refine blk_drew ?_ | refine blk_alloc ?_ _)); refine blk_far ?_ NB133_145.out _; (with_reducible repeat (first | refine blk_drewN ?_ _ | refine blk_drew ?_ | refine blk_alloc ?_ _)); refine blk_far ?_ NB133_145.out _; (with_reducible repeat (first | refine blk_drewN ?_ _ | refine blk_drew ?_ | refine blk_alloc ?_ _)); exact BK133.out) Tryd.underlying50 rfl (by kernel_rfl)) rfl ?_
          exact ⟨by first | rfl | (simp [errP_none, errP_some] <;> rfl) | (simp [*, errP_none, errP_some] <;> rfl), sqB2 HB GE133 GE145⟩
      · rw [if_neg c6] at H
        exact absurd H (by simp)
    · rw [if_neg c5] at H
      have c5b0 : ((t134.length : Int) == 2) = false := beq_eq_false_iff_ne.mpr c5
      have c5b1 : ((t134.length : Int) != 2) = true := bne_iff_ne.mpr c5
      by_cases c51 : t139 = true
      · subst c51
        have H1 : (if (t134.length : Int) > 2 then (some (0, 0, false)) else ((spec_FractionText.f k t138 1).bind fun t147 => (if t147.toList = a0.toList then (some (t138, 1, true)) else (some (0, 0, false))))) = some (r1, r2, r3) := by rw [if_pos rfl] at H; exact H
        clear H
        have H := H1
        clear H1
        by_cases c52 : (t134.length : Int) > 2
        · rw [if_pos c52] at H
          have c52b0 : decide (2 < (t134.length : Int)) = true := decide_eq_true c52
          have c52b1 : decide (2 < t134.length) = true := decide_eq_true (by omega)
          clear c52
          simp only [Option.some.injEq, Prod.mk.injEq] at H
          obtain ⟨rfl, rfl, rfl⟩ := H
          go_enter Tryd.func31, Tryd.ntmps31
          go_wp2_with (first | ((with_reducible refine gate_dst (N := 2) rfl ?_); (try (refine gate_guard (by rfl) ?_; dsimp only)); refine box_event ?hg (N := 2) ?hd (cs := #[.int .i64 0, .int .i64 0]) (t := 50) ?hr ?_; (case hd => rfl); (case hg => rfl); (case hr => first | (go_simp; done) | (go_simp; rfl)); intro gb133 hg w53 hbox hb; have BK133 := Aside0.mk (hbox); have GW133 := Aside0.mk (sqG hg (sqB HB)); have GE133 := Aside0.mk (sqG hg (sqB HB)); replace HB := sqS (sqB HB) hb; clear hb hbox hg) | ((with_reducible refine gate_callee (f := 34) rfl ?_); refine goesL_ (some 12) rfl rfl Tryd.func34 (by kernel_rfl) rfl #[.string a0, .int .u8 47] rfl sqA ?_; (with_reducible refine (spec_l1Cut.calls k a0 47 t134 _ A2.out).mono ?_); rintro e w54 ⟨v135, rfl, ho0, hb⟩; refine ⟨_, rfl, ?_⟩; have HO136 := sqL ho0 (sqB1 HB GE133); replace BK133 := sqT BK133 hb; replace HB := sqS (sqB1 HB GE133) hb; (try clear hb); (try clear ho0); obtain ⟨Ao55, co55, eo55⟩ := Kd.R_slice HO136.out; subst eo55; have p137 : 0 ≤ (0 : Int) := (by omega); have q137 : 0 < (t134.length : Int) := of_decide_eq_true (by first | (with_reducible assumption) | assumption); obtain ⟨ad137, e137, hx137_0⟩ := Kd.at_string (Kd.R_reads' HO136.out).2.2 0 p137 q137; cases e137; have qi137 : (0 < t134.length) = True := eq_true (by omega); (try rw [show ((0 : Int)).toNat = 0 from rfl] at hx137_0); (try rw [Addr.add_zero'] at hx137_0); replace p137 := eq_true p137; replace q137 := eq_true q137) | ((with_reducible refine gate_callee (f := 45) rfl ?_); refine goesL_ (some 17) rfl rfl Tryd.func45 (by kernel_rfl) rfl #[.string (rdOf ByteArray.empty t134 0)] rfl sqA ?_; (with_reducible refine (spec_l1Digits.calls k (rdOf ByteArray.empty t134 0) t138 true _ A4.out).mono ?_); rintro e w' ⟨rfl, ⟨nd, rfl⟩⟩; refine ⟨_, rfl, ?_⟩; (try (rw [drewN_self w54]; generalize hq_ : World.drewN w54 _ = w54; have n0_ : Aside0 (Kd.R Kd.string 9 w54 w.heap.size (fun _ => True) (.slice (some ad137) t134.length co55) t134) := ⟨by rw [← hq_]; exact (sqR HO136)⟩; have n1_ : Aside0 (w54.heap[gb133]? = some (.cells #[.int .i64 0, .int .i64 0] 50 (0, 0))) := ⟨by rw [← hq_]; exact (sqK BK133)⟩; have n2_ : Aside0 (Below w.heap.size w w54) := ⟨by rw [← hq_]; exact (sqB1 HB GE133)⟩; clear HO136 BK133 HB hq_; have HO136 := n0_; have BK133 := n1_; have HB := n2_; clear n0_ n1_ n2_))) | ((with_reducible refine gate_dst (N := 10) rfl ?_); (try (refine gate_guard (by rfl) ?_; dsimp only)); refine box_event ?hg (N := 10) ?hd (cs := #[.int .i64 0, .int .i64 0]) (t := 50) ?hr ?_; (case hd => rfl); (case hg => rfl); (case hr => first | (go_simp; done) | (go_simp; rfl)); intro gb146 hg w56 hbox hb; replace HO136 := sqU HO136 hb; have BK146 := Aside0.mk (hbox); have GW146 := Aside0.mk (sqG hg (sqB1 HB GE133)); have GE146 := Aside0.mk (sqG hg (sqB1 HB GE133)); replace HB := sqS (sqB1 HB GE133) hb; have NB133_146 := Aside0.mk ((by rw [hg]; exact Nat.ne_of_lt (blk_lt (sqK BK133)) : gb133 ≠ gb146)); have NB146_133 := Aside0.mk ((by rw [hg]; exact Nat.ne_of_gt (blk_lt (sqK BK133)) : gb146 ≠ gb133)); replace BK133 := sqT BK133 hb; clear hb hbox hg; have hnb57 := NB146_133.out; have hnc57 := NB133_146.out; have hcz58_0 := sqZ BK146 0 (.int .i64 0); have hcz58_1 := sqZ BK146 1 (.int .i64 0); have hfz58_0 := blk_frozen BK146.out 0; have hfz58_1 := blk_frozen BK146.out 1; have hcz59_0 := sqZ BK133 0 (.int .i64 0); have hcz59_1 := sqZ BK133 1 (.int .i64 0); have hfz59_0 := blk_frozen BK133.out 0; have hfz59_1 := blk_frozen BK133.out 1))
          refine bodyPost_ret (results_ct rfl _ _ gb133 50 #[.int .i64 0, .int .i64 0] (0, 0) _ rfl (by (with_reducible repeat (first | refine blk_drewN ?_ _ | refine blk_drew ?_ | refine blk_alloc ?_ _)); refine blk_put (cs := #[.int .i64 0, .int .i64 0]) ?_ 1 _ rfl; (with_reducible repeat (first | refine blk_drewN ?_ _ | refine blk_drew ?_ | refine blk_alloc ?_ _)); refine blk_put (cs := #[.int .i64 0, .int .i64 0]) ?_ 0 _ rfl; (with_reducible repeat (first | refine blk_drewN ?_ _ | refine blk_drew ?_ | refine blk_alloc ?_ _)); refine blk_far ?_ NB133_146.out _; (with_reducible repeat (first | refine blk_drewN ?_ _ | refine blk_drew ?_ | refine blk_alloc ?_ _)); refine blk_far ?_ NB133_146.out _; (with_reducible repeat (first | refine blk_drewN ?_ _ | refine blk_drew ?_ | refine blk_alloc ?_ _)); exact BK133.out) Tryd.underlying50 rfl (by kernel_rfl)) rfl ?_
          exact ⟨by first | rfl | (simp [errP_none, errP_some] <;> rfl) | (simp [*, errP_none, errP_some] <;> rfl), sqB2 HB GE133 GE146⟩
        · rw [if_neg c52] at H
          have c52b0 : decide (2 < (t134.length : Int)) = false := decide_eq_false c52
          have c52b1 : decide (2 < t134.length) = false := decide_eq_false (by omega)
          clear c52
          replace H := Option.bind_eq_some_iff.mp H
          obtain ⟨t147, A600, H⟩ := H
          replace H : (if t147.toList = a0.toList then (some (t138, 1, true)) else (some (0, 0, false))) = some (r1, r2, r3) := H
          have A60 := Aside0.mk A600
          clear A600
          by_cases c61 : t147.toList = a0.toList
          · rw [if_pos c61] at H
            have c61b0 : (t147.toList == a0.toList) = true := beq_iff_eq.mpr c61
            have c61b1 : (t147.toList != a0.toList) = false := bne_eq_false_iff_eq.mpr c61
            clear c61
            simp only [Option.some.injEq, Prod.mk.injEq] at H
            obtain ⟨rfl, rfl, rfl⟩ := H
            go_enter Tryd.func31, Tryd.ntmps31
            go_wp2_with (first | ((with_reducible refine gate_dst (N := 2) rfl ?_); (try (refine gate_guard (by rfl) ?_; dsimp only)); refine box_event ?hg (N := 2) ?hd (cs := #[.int .i64 0, .int .i64 0]) (t := 50) ?hr ?_; (case hd => rfl); (case hg => rfl); (case hr => first | (go_simp; done) | (go_simp; rfl)); intro gb133 hg w62 hbox hb; have BK133 := Aside0.mk (hbox); have GW133 := Aside0.mk (sqG hg (sqB HB)); have GE133 := Aside0.mk (sqG hg (sqB HB)); replace HB := sqS (sqB HB) hb; clear hb hbox hg) | ((with_reducible refine gate_callee (f := 34) rfl ?_); refine goesL_ (some 12) rfl rfl Tryd.func34 (by kernel_rfl) rfl #[.string a0, .int .u8 47] rfl sqA ?_; (with_reducible refine (spec_l1Cut.calls k a0 47 t134 _ A2.out).mono ?_); rintro e w63 ⟨v135, rfl, ho0, hb⟩; refine ⟨_, rfl, ?_⟩; have HO136 := sqL ho0 (sqB1 HB GE133); replace BK133 := sqT BK133 hb; replace HB := sqS (sqB1 HB GE133) hb; (try clear hb); (try clear ho0); obtain ⟨Ao64, co64, eo64⟩ := Kd.R_slice HO136.out; subst eo64; have p137 : 0 ≤ (0 : Int) := (by omega); have q137 : 0 < (t134.length : Int) := of_decide_eq_true (by first | (with_reducible assumption) | assumption); obtain ⟨ad137, e137, hx137_0⟩ := Kd.at_string (Kd.R_reads' HO136.out).2.2 0 p137 q137; cases e137; have qi137 : (0 < t134.length) = True := eq_true (by omega); (try rw [show ((0 : Int)).toNat = 0 from rfl] at hx137_0); (try rw [Addr.add_zero'] at hx137_0); replace p137 := eq_true p137; replace q137 := eq_true q137) | ((with_reducible refine gate_callee (f := 45) rfl ?_); refine goesL_ (some 17) rfl rfl Tryd.func45 (by kernel_rfl) rfl #[.string (rdOf ByteArray.empty t134 0)] rfl sqA ?_; (with_reducible refine (spec_l1Digits.calls k (rdOf ByteArray.empty t134 0) t138 true _ A4.out).mono ?_); rintro e w' ⟨rfl, ⟨nd, rfl⟩⟩; refine ⟨_, rfl, ?_⟩; (try (rw [drewN_self w63]; generalize hq_ : World.drewN w63 _ = w63; have n0_ : Aside0 (Kd.R Kd.string 9 w63 w.heap.size (fun _ => True) (.slice (some ad137) t134.length co64) t134) := ⟨by rw [← hq_]; exact (sqR HO136)⟩; have n1_ : Aside0 (w63.heap[gb133]? = some (.cells #[.int .i64 0, .int .i64 0] 50 (0, 0))) := ⟨by rw [← hq_]; exact (sqK BK133)⟩; have n2_ : Aside0 (Below w.heap.size w w63) := ⟨by rw [← hq_]; exact (sqB1 HB GE133)⟩; clear HO136 BK133 HB hq_; have HO136 := n0_; have BK133 := n1_; have HB := n2_; clear n0_ n1_ n2_))) | ((with_reducible refine gate_dst (N := 10) rfl ?_); (try (refine gate_guard (by rfl) ?_; dsimp only)); refine box_event ?hg (N := 10) ?hd (cs := #[.int .i64 0, .int .i64 0]) (t := 50) ?hr ?_; (case hd => rfl); (case hg => rfl); (case hr => first | (go_simp; done) | (go_simp; rfl)); intro gb146 hg w65 hbox hb; replace HO136 := sqU HO136 hb; have BK146 := Aside0.mk (hbox); have GW146 := Aside0.mk (sqG hg (sqB1 HB GE133)); have GE146 := Aside0.mk (sqG hg (sqB1 HB GE133)); replace HB := sqS (sqB1 HB GE133) hb; have NB133_146 := Aside0.mk ((by rw [hg]; exact Nat.ne_of_lt (blk_lt (sqK BK133)) : gb133 ≠ gb146)); have NB146_133 := Aside0.mk ((by rw [hg]; exact Nat.ne_of_gt (blk_lt (sqK BK133)) : gb146 ≠ gb133)); replace BK133 := sqT BK133 hb; clear hb hbox hg; have hnb66 := NB146_133.out; have hnc66 := NB133_146.out; have hcz67_0 := sqZ BK146 0 (.int .i64 0); have hcz67_1 := sqZ BK146 1 (.int .i64 0); have hfz67_0 := blk_frozen BK146.out 0; have hfz67_1 := blk_frozen BK146.out 1) | (go_at_call 46; (with_reducible refine (spec_FractionText.calls k t138 1 t147 _ A60.out).mono ?_); rintro e w68 ⟨rfl, hb⟩; replace HO136 := Aside0.mk (Kd.R_below (by (with_reducible repeat (first | apply Kd.R_alloc | apply Kd.R_drewN | apply Kd.R_drew)); exact (Kd.R_mono (Kd.R_far (p := ⟨gb146, 1, none⟩) (Kd.R_far (p := ⟨gb146, 0, none⟩) (Kd.R_types HO136.out BK146.out (by decide)) (fun _ hk => hk.2) (.int .i64 t138)) (fun _ hk => hk.2) (.int .i64 1)) (fun _ h_ => h_.1))) hb); replace BK133 := Aside0.mk (blk_below (g := gb133) (o := .cells #[.int .i64 0, .int .i64 0] 50 (0, 0)) (by (with_reducible repeat (first | refine blk_drewN ?_ _ | refine blk_drew ?_ | refine blk_alloc ?_ _)); refine blk_far ?_ NB133_146.out _; (with_reducible repeat (first | refine blk_drewN ?_ _ | refine blk_drew ?_ | refine blk_alloc ?_ _)); refine blk_far ?_ NB133_146.out _; (with_reducible repeat (first | refine blk_drewN ?_ _ | refine blk_drew ?_ | refine blk_alloc ?_ _)); exact BK133.out) hb); replace BK146 := Aside0.mk (blk_below (g := gb146) (o := .cells #[.int .i64 t138, .int .i64 1] 50 (0, 0)) (by (with_reducible repeat (first | refine blk_drewN ?_ _ | refine blk_drew ?_ | refine blk_alloc ?_ _)); refine blk_put (cs := #[.int .i64 t138, .int .i64 0]) ?_ 1 _ rfl; (with_reducible repeat (first | refine blk_drewN ?_ _ | refine blk_drew ?_ | refine blk_alloc ?_ _)); refine blk_put (cs := #[.int .i64 0, .int .i64 0]) ?_ 0 _ rfl; (with_reducible repeat (first | refine blk_drewN ?_ _ | refine blk_drew ?_ | refine blk_alloc ?_ _)); exact BK146.out) hb); replace HB := sqS (sqB2 HB GE133 GE146) hb; (try clear hb); have hcz69_0 := sqZ BK146 0 (.int .i64 t138); have hcz69_1 := sqZ BK146 1 (.int .i64 1); have hfz69_0 := blk_frozen BK146.out 0; have hfz69_1 := blk_frozen BK146.out 1; have hcz70_0 := sqZ BK133 0 (.int .i64 0); have hcz70_1 := sqZ BK133 1 (.int .i64 0); have hfz70_0 := blk_frozen BK133.out 0; have hfz70_1 := blk_frozen BK133.out 1))
            refine bodyPost_ret (results_ct rfl _ _ gb133 50 #[.int .i64 t138, .int .i64 1] (0, 0) _ rfl (by (with_reducible repeat (first | refine blk_drewN ?_ _ | refine blk_drew ?_ | refine blk_alloc ?_ _)); refine blk_put (cs := #[.int .i64 t138, .int .i64 0]) ?_ 1 _ rfl; (with_reducible repeat (first | refine blk_drewN ?_ _ | refine blk_drew ?_ | refine blk_alloc ?_ _)); refine blk_put (cs := #[.int .i64 0, .int .i64 0]) ?_ 0 _ rfl; (with_reducible repeat (first | refine blk_drewN ?_ _ | refine blk_drew ?_ | refine blk_alloc ?_ _)); exact BK133.out) Tryd.underlying50 rfl (by kernel_rfl)) rfl ?_
            exact ⟨by first | rfl | (simp [errP_none, errP_some] <;> rfl) | (simp [*, errP_none, errP_some] <;> rfl), sqB2 HB GE133 GE146⟩
          · rw [if_neg c61] at H
            have c61b0 : (t147.toList == a0.toList) = false := beq_eq_false_iff_ne.mpr c61
            have c61b1 : (t147.toList != a0.toList) = true := bne_iff_ne.mpr c61
            simp only [Option.some.injEq, Prod.mk.injEq] at H
            obtain ⟨rfl, rfl, rfl⟩ := H
            go_enter Tryd.func31, Tryd.ntmps31
            go_wp2_with (first | ((with_reducible refine gate_dst (N := 2) rfl ?_); (try (refine gate_guard (by rfl) ?_; dsimp only)); refine box_event ?hg (N := 2) ?hd (cs := #[.int .i64 0, .int .i64 0]) (t := 50) ?hr ?_; (case hd => rfl); (case hg => rfl); (case hr => first | (go_simp; done) | (go_simp; rfl)); intro gb133 hg w71 hbox hb; have BK133 := Aside0.mk (hbox); have GW133 := Aside0.mk (sqG hg (sqB HB)); have GE133 := Aside0.mk (sqG hg (sqB HB)); replace HB := sqS (sqB HB) hb; clear hb hbox hg) | ((with_reducible refine gate_callee (f := 34) rfl ?_); refine goesL_ (some 12) rfl rfl Tryd.func34 (by kernel_rfl) rfl #[.string a0, .int .u8 47] rfl sqA ?_; (with_reducible refine (spec_l1Cut.calls k a0 47 t134 _ A2.out).mono ?_); rintro e w72 ⟨v135, rfl, ho0, hb⟩; refine ⟨_, rfl, ?_⟩; have HO136 := sqL ho0 (sqB1 HB GE133); replace BK133 := sqT BK133 hb; replace HB := sqS (sqB1 HB GE133) hb; (try clear hb); (try clear ho0); obtain ⟨Ao73, co73, eo73⟩ := Kd.R_slice HO136.out; subst eo73; have p137 : 0 ≤ (0 : Int) := (by omega); have q137 : 0 < (t134.length : Int) := of_decide_eq_true (by first | (with_reducible assumption) | assumption); obtain ⟨ad137, e137, hx137_0⟩ := Kd.at_string (Kd.R_reads' HO136.out).2.2 0 p137 q137; cases e137; have qi137 : (0 < t134.length) = True := eq_true (by omega); (try rw [show ((0 : Int)).toNat = 0 from rfl] at hx137_0); (try rw [Addr.add_zero'] at hx137_0); replace p137 := eq_true p137; replace q137 := eq_true q137) | ((with_reducible refine gate_callee (f := 45) rfl ?_); refine goesL_ (some 17) rfl rfl Tryd.func45 (by kernel_rfl) rfl #[.string (rdOf ByteArray.empty t134 0)] rfl sqA ?_; (with_reducible refine (spec_l1Digits.calls k (rdOf ByteArray.empty t134 0) t138 true _ A4.out).mono ?_); rintro e w' ⟨rfl, ⟨nd, rfl⟩⟩; refine ⟨_, rfl, ?_⟩; (try (rw [drewN_self w72]; generalize hq_ : World.drewN w72 _ = w72; have n0_ : Aside0 (Kd.R Kd.string 9 w72 w.heap.size (fun _ => True) (.slice (some ad137) t134.length co73) t134) := ⟨by rw [← hq_]; exact (sqR HO136)⟩; have n1_ : Aside0 (w72.heap[gb133]? = some (.cells #[.int .i64 0, .int .i64 0] 50 (0, 0))) := ⟨by rw [← hq_]; exact (sqK BK133)⟩; have n2_ : Aside0 (Below w.heap.size w w72) := ⟨by rw [← hq_]; exact (sqB1 HB GE133)⟩; clear HO136 BK133 HB hq_; have HO136 := n0_; have BK133 := n1_; have HB := n2_; clear n0_ n1_ n2_))) | ((with_reducible refine gate_dst (N := 10) rfl ?_); (try (refine gate_guard (by rfl) ?_; dsimp only)); refine box_event ?hg (N := 10) ?hd (cs := #[.int .i64 0, .int .i64 0]) (t := 50) ?hr ?_; (case hd => rfl); (case hg => rfl); (case hr => first | (go_simp; done) | (go_simp; rfl)); intro gb146 hg w74 hbox hb; replace HO136 := sqU HO136 hb; have BK146 := Aside0.mk (hbox); have GW146 := Aside0.mk (sqG hg (sqB1 HB GE133)); have GE146 := Aside0.mk (sqG hg (sqB1 HB GE133)); replace HB := sqS (sqB1 HB GE133) hb; have NB133_146 := Aside0.mk ((by rw [hg]; exact Nat.ne_of_lt (blk_lt (sqK BK133)) : gb133 ≠ gb146)); have NB146_133 := Aside0.mk ((by rw [hg]; exact Nat.ne_of_gt (blk_lt (sqK BK133)) : gb146 ≠ gb133)); replace BK133 := sqT BK133 hb; clear hb hbox hg; have hnb75 := NB146_133.out; have hnc75 := NB133_146.out; have hcz76_0 := sqZ BK146 0 (.int .i64 0); have hcz76_1 := sqZ BK146 1 (.int .i64 0); have hfz76_0 := blk_frozen BK146.out 0; have hfz76_1 := blk_frozen BK146.out 1) | (go_at_call 46; (with_reducible refine (spec_FractionText.calls k t138 1 t147 _ A60.out).mono ?_); rintro e w77 ⟨rfl, hb⟩; replace HO136 := Aside0.mk (Kd.R_below (by (with_reducible repeat (first | apply Kd.R_alloc | apply Kd.R_drewN | apply Kd.R_drew)); exact (Kd.R_mono (Kd.R_far (p := ⟨gb146, 1, none⟩) (Kd.R_far (p := ⟨gb146, 0, none⟩) (Kd.R_types HO136.out BK146.out (by decide)) (fun _ hk => hk.2) (.int .i64 t138)) (fun _ hk => hk.2) (.int .i64 1)) (fun _ h_ => h_.1))) hb); replace BK133 := Aside0.mk (blk_below (g := gb133) (o := .cells #[.int .i64 0, .int .i64 0] 50 (0, 0)) (by (with_reducible repeat (first | refine blk_drewN ?_ _ | refine blk_drew ?_ | refine blk_alloc ?_ _)); refine blk_far ?_ NB133_146.out _; (with_reducible repeat (first | refine blk_drewN ?_ _ | refine blk_drew ?_ | refine blk_alloc ?_ _)); refine blk_far ?_ NB133_146.out _; (with_reducible repeat (first | refine blk_drewN ?_ _ | refine blk_drew ?_ | refine blk_alloc ?_ _)); exact BK133.out) hb); replace BK146 := Aside0.mk (blk_below (g := gb146) (o := .cells #[.int .i64 t138, .int .i64 1] 50 (0, 0)) (by (with_reducible repeat (first | refine blk_drewN ?_ _ | refine blk_drew ?_ | refine blk_alloc ?_ _)); refine blk_put (cs := #[.int .i64 t138, .int .i64 0]) ?_ 1 _ rfl; (with_reducible repeat (first | refine blk_drewN ?_ _ | refine blk_drew ?_ | refine blk_alloc ?_ _)); refine blk_put (cs := #[.int .i64 0, .int .i64 0]) ?_ 0 _ rfl; (with_reducible repeat (first | refine blk_drewN ?_ _ | refine blk_drew ?_ | refine blk_alloc ?_ _)); exact BK146.out) hb); replace HB := sqS (sqB2 HB GE133 GE146) hb; (try clear hb); have hcz78_0 := sqZ BK133 0 (.int .i64 0); have hcz78_1 := sqZ BK133 1 (.int .i64 0); have hfz78_0 := blk_frozen BK133.out 0; have hfz78_1 := blk_frozen BK133.out 1))
            refine bodyPost_ret (results_ct rfl _ _ gb133 50 #[.int .i64 0, .int .i64 0] (0, 0) _ rfl (by (with_reducible repeat (first | refine blk_drewN ?_ _ | refine blk_drew ?_ | refine blk_alloc ?_ _)); refine blk_put (cs := #[.int .i64 0, .int .i64 0]) ?_ 1 _ rfl; (with_reducible repeat (first | refine blk_drewN ?_ _ | refine blk_drew ?_ | refine blk_alloc ?_ _)); refine blk_put (cs := #[.int .i64 0, .int .i64 0]) ?_ 0 _ rfl; (with_reducible repeat (first | refine blk_drewN ?_ _ | refine blk_drew ?_ | refine blk_alloc ?_ _)); exact BK133.out) Tryd.underlying50 rfl (by kernel_rfl)) rfl ?_
            exact ⟨by first | rfl | (simp [errP_none, errP_some] <;> rfl) | (simp [*, errP_none, errP_some] <;> rfl), sqB2 HB GE133 GE146⟩
      · replace c51 := Bool.eq_false_iff.mpr c51
        subst c51
        have H1 : (some (0, 0, false)) = some (r1, r2, r3) := by rw [if_neg (show ¬ (false = true) by decide)] at H; exact H
        clear H
        have H := H1
        clear H1
        simp only [Option.some.injEq, Prod.mk.injEq] at H
        obtain ⟨rfl, rfl, rfl⟩ := H
        go_enter Tryd.func31, Tryd.ntmps31
        go_wp2_with (first | ((with_reducible refine gate_dst (N := 2) rfl ?_); (try (refine gate_guard (by rfl) ?_; dsimp only)); refine box_event ?hg (N := 2) ?hd (cs := #[.int .i64 0, .int .i64 0]) (t := 50) ?hr ?_; (case hd => rfl); (case hg => rfl); (case hr => first | (go_simp; done) | (go_simp; rfl)); intro gb133 hg w79 hbox hb; have BK133 := Aside0.mk (hbox); have GW133 := Aside0.mk (sqG hg (sqB HB)); have GE133 := Aside0.mk (sqG hg (sqB HB)); replace HB := sqS (sqB HB) hb; clear hb hbox hg) | ((with_reducible refine gate_callee (f := 34) rfl ?_); refine goesL_ (some 12) rfl rfl Tryd.func34 (by kernel_rfl) rfl #[.string a0, .int .u8 47] rfl sqA ?_; (with_reducible refine (spec_l1Cut.calls k a0 47 t134 _ A2.out).mono ?_); rintro e w80 ⟨v135, rfl, ho0, hb⟩; refine ⟨_, rfl, ?_⟩; have HO136 := sqL ho0 (sqB1 HB GE133); replace BK133 := sqT BK133 hb; replace HB := sqS (sqB1 HB GE133) hb; (try clear hb); (try clear ho0); obtain ⟨Ao81, co81, eo81⟩ := Kd.R_slice HO136.out; subst eo81; have p137 : 0 ≤ (0 : Int) := (by omega); have q137 : 0 < (t134.length : Int) := of_decide_eq_true (by first | (with_reducible assumption) | assumption); obtain ⟨ad137, e137, hx137_0⟩ := Kd.at_string (Kd.R_reads' HO136.out).2.2 0 p137 q137; cases e137; have qi137 : (0 < t134.length) = True := eq_true (by omega); (try rw [show ((0 : Int)).toNat = 0 from rfl] at hx137_0); (try rw [Addr.add_zero'] at hx137_0); replace p137 := eq_true p137; replace q137 := eq_true q137) | ((with_reducible refine gate_callee (f := 45) rfl ?_); refine goesL_ (some 17) rfl rfl Tryd.func45 (by kernel_rfl) rfl #[.string (rdOf ByteArray.empty t134 0)] rfl sqA ?_; (with_reducible refine (spec_l1Digits.calls k (rdOf ByteArray.empty t134 0) t138 false _ A4.out).mono ?_); rintro e w' ⟨rfl, ⟨nd, rfl⟩⟩; refine ⟨_, rfl, ?_⟩; (try (rw [drewN_self w80]; generalize hq_ : World.drewN w80 _ = w80; have n0_ : Aside0 (Kd.R Kd.string 9 w80 w.heap.size (fun _ => True) (.slice (some ad137) t134.length co81) t134) := ⟨by rw [← hq_]; exact (sqR HO136)⟩; have n1_ : Aside0 (w80.heap[gb133]? = some (.cells #[.int .i64 0, .int .i64 0] 50 (0, 0))) := ⟨by rw [← hq_]; exact (sqK BK133)⟩; have n2_ : Aside0 (Below w.heap.size w w80) := ⟨by rw [← hq_]; exact (sqB1 HB GE133)⟩; clear HO136 BK133 HB hq_; have HO136 := n0_; have BK133 := n1_; have HB := n2_; clear n0_ n1_ n2_))) | ((with_reducible refine gate_dst (N := 10) rfl ?_); (try (refine gate_guard (by rfl) ?_; dsimp only)); refine box_event ?hg (N := 10) ?hd (cs := #[.int .i64 0, .int .i64 0]) (t := 50) ?hr ?_; (case hd => rfl); (case hg => rfl); (case hr => first | (go_simp; done) | (go_simp; rfl)); intro gb146 hg w82 hbox hb; replace HO136 := sqU HO136 hb; have BK146 := Aside0.mk (hbox); have GW146 := Aside0.mk (sqG hg (sqB1 HB GE133)); have GE146 := Aside0.mk (sqG hg (sqB1 HB GE133)); replace HB := sqS (sqB1 HB GE133) hb; have NB133_146 := Aside0.mk ((by rw [hg]; exact Nat.ne_of_lt (blk_lt (sqK BK133)) : gb133 ≠ gb146)); have NB146_133 := Aside0.mk ((by rw [hg]; exact Nat.ne_of_gt (blk_lt (sqK BK133)) : gb146 ≠ gb133)); replace BK133 := sqT BK133 hb; clear hb hbox hg; have hnb83 := NB146_133.out; have hnc83 := NB133_146.out; have hcz84_0 := sqZ BK146 0 (.int .i64 0); have hcz84_1 := sqZ BK146 1 (.int .i64 0); have hfz84_0 := blk_frozen BK146.out 0; have hfz84_1 := blk_frozen BK146.out 1; have hcz85_0 := sqZ BK133 0 (.int .i64 0); have hcz85_1 := sqZ BK133 1 (.int .i64 0); have hfz85_0 := blk_frozen BK133.out 0; have hfz85_1 := blk_frozen BK133.out 1))
        refine bodyPost_ret (results_ct rfl _ _ gb133 50 #[.int .i64 0, .int .i64 0] (0, 0) _ rfl (by (with_reducible repeat (first | refine blk_drewN ?_ _ | refine blk_drew ?_ | refine blk_alloc ?_ _)); refine blk_put (cs := #[.int .i64 0, .int .i64 0]) ?_ 1 _ rfl; (with_reducible repeat (first | refine blk_drewN ?_ _ | refine blk_drew ?_ | refine blk_alloc ?_ _)); refine blk_put (cs := #[.int .i64 0, .int .i64 0]) ?_ 0 _ rfl; (with_reducible repeat (first | refine blk_drewN ?_ _ | refine blk_drew ?_ | refine blk_alloc ?_ _)); refine blk_far ?_ NB133_146.out _; (with_reducible repeat (first | refine blk_drewN ?_ _ | refine blk_drew ?_ | refine blk_alloc ?_ _)); refine blk_far ?_ NB133_146.out _; (with_reducible repeat (first | refine blk_drewN ?_ _ | refine blk_drew ?_ | refine blk_alloc ?_ _)); exact BK133.out) Tryd.underlying50 rfl (by kernel_rfl)) rfl ?_
        exact ⟨by first | rfl | (simp [errP_none, errP_some] <;> rfl) | (simp [*, errP_none, errP_some] <;> rfl), sqB2 HB GE133 GE146⟩
  · rw [if_neg c3] at H
    exact absurd H (by simp)

/-! ### spec_DanceOk: function 32 -/
def spec_DanceOk.l0 : Nat → ByteArray → Int → Option (Bool)
  | 0, _, _ => none
  | k + 1, x0, x3 => if x3 < (x0.size : Int) then (if 0 ≤ x3 then (if (bt x0 x3) = 84 then (spec_DanceOk.l0 k x0 (wrap64 (x3 + 1))) else (if (bt x0 x3) = 116 then (spec_DanceOk.l0 k x0 (wrap64 (x3 + 1))) else (if (bt x0 x3) = 82 then (spec_DanceOk.l0 k x0 (wrap64 (x3 + 1))) else (some false)))) else (none)) else (some (decide ((x0.size : Int) ≤ 40)))
def spec_DanceOk.f (k : Nat) (a0 : ByteArray) : Option (Bool) := spec_DanceOk.l0 k a0 0
theorem spec_DanceOk.mono_l : ∀ k, (∀ y0 y1, LeO (spec_DanceOk.l0 k y0 y1) (spec_DanceOk.l0 (k + 1) y0 y1))
  | 0 => fun _ _ r h => by simp [spec_DanceOk.l0] at h
  | k + 1 => by
    have ih0 := spec_DanceOk.mono_l k
    · intro y0 y1
      unfold spec_DanceOk.l0
      repeat' first
      | (with_reducible exact ih0 _ _)
      | (with_reducible exact LeO.refl _)
      | (with_reducible exact LeO.none _)
      | (with_reducible refine LeO.ite ?_ ?_)
      | (with_reducible refine LeO.bind ?_ (fun _ => ?_))
      | exact ih0 _ _
      | exact LeO.none _
      | refine LeO.ite ?_ ?_
      | refine LeO.bind ?_ (fun _ => ?_)
theorem spec_DanceOk.mono : ∀ a0 k, LeO (spec_DanceOk.f k a0) (spec_DanceOk.f (k + 1) a0) := by
  intro a0 k
  have ih0 := spec_DanceOk.mono_l k
  unfold spec_DanceOk.f
  repeat' first
      | (with_reducible exact ih0 _ _)
      | (with_reducible exact LeO.refl _)
      | (with_reducible exact LeO.none _)
      | (with_reducible refine LeO.ite ?_ ?_)
      | (with_reducible refine LeO.bind ?_ (fun _ => ?_))
      | exact ih0 _ _
      | exact LeO.none _
      | refine LeO.ite ?_ ?_
      | refine LeO.bind ?_ (fun _ => ?_)
set_option maxHeartbeats 8000000 in
set_option maxRecDepth 100000 in
theorem spec_DanceOk.calls (k : Nat) (a0 : ByteArray) (r : Bool) (w : World) (h : spec_DanceOk.f k a0 = some r) :
    Calls Tryd.prog 32 #[.string a0] w fun e w' => e = .returned (.bool r) ∧ Drawn0 w w' := by
  have H : (spec_DanceOk.l0 k a0 0) = some r := h
  clear h
  have H' := Aside0.mk H
  clear H
  go_enter Tryd.func32, Tryd.ntmps32
  go_wp2
  go_loopg [3] k (fun kq v3 w' => ∃ (x3_1 : Int), v3 = .int .i64 x3_1 ∧ Aside0 (spec_DanceOk.l0 kq a0 x3_1 = some r) ∧ Aside0 (kq ≤ k) ∧ Drawn0 w w')
  case atStart => exact ⟨(0), (by first | rfl | (simp; done) | (simp [*]; done)), H', ⟨Nat.le_refl _⟩, by repeat (first | exact Drawn0.refl _ | apply Drawn0.step)⟩
  case round =>
    clear H'
    obtain ⟨x3_1, rfl, HA, HK1, ⟨m1, rfl⟩⟩ := hrel
    cases gk with
    | zero => exact absurd HA.out (by simp [spec_DanceOk.l0])
    | succ k1 =>
      have H := HA.out
      clear HA
      simp only [spec_DanceOk.l0] at H
      by_cases c2 : x3_1 < (a0.size : Int)
      · rw [if_pos c2] at H
        have c2b0 : decide (x3_1 < (a0.size : Int)) = true := decide_eq_true c2
        clear c2
        by_cases c3 : 0 ≤ x3_1
        · rw [if_pos c3] at H
          have c3b0 : decide (0 ≤ x3_1) = true := decide_eq_true c3
          clear c3
          by_cases c5 : (bt a0 x3_1) = 84
          · rw [if_pos c5] at H
            have c5b0 : ((bt a0 x3_1) == 84) = true := beq_iff_eq.mpr c5
            have c5b1 : ((bt a0 x3_1) != 84) = false := bne_eq_false_iff_eq.mpr c5
            clear c5
            have H' := Aside0.mk H
            clear H
            have p4 : 0 ≤ (x3_1 : Int) := of_decide_eq_true (by first | (with_reducible assumption) | assumption)
            have q4 : x3_1 < (a0.size : Int) := of_decide_eq_true (by first | (with_reducible assumption) | assumption)
            have hx4 := bt_at a0 x3_1
            replace p4 := eq_true p4
            replace q4 := eq_true q4
            go_wp2
            go_roundg k1
            case measure => have := HK1.out; omega
            case rel => exact ⟨(wrap64 (x3_1 + 1)), (by first | rfl | (simp; done) | (simp [*]; done)), H', ⟨by have := HK1.out; omega⟩, by repeat (first | exact Drawn0.refl _ | apply Drawn0.step)⟩
          · rw [if_neg c5] at H
            have c5b0 : ((bt a0 x3_1) == 84) = false := beq_eq_false_iff_ne.mpr c5
            have c5b1 : ((bt a0 x3_1) != 84) = true := bne_iff_ne.mpr c5
            by_cases c7 : (bt a0 x3_1) = 116
            · rw [if_pos c7] at H
              have c7b0 : ((bt a0 x3_1) == 116) = true := beq_iff_eq.mpr c7
              have c7b1 : ((bt a0 x3_1) != 116) = false := bne_eq_false_iff_eq.mpr c7
              clear c7
              have H' := Aside0.mk H
              clear H
              have p4 : 0 ≤ (x3_1 : Int) := of_decide_eq_true (by first | (with_reducible assumption) | assumption)
              have q4 : x3_1 < (a0.size : Int) := of_decide_eq_true (by first | (with_reducible assumption) | assumption)
              have hx4 := bt_at a0 x3_1
              replace p4 := eq_true p4
              replace q4 := eq_true q4
              have p6 : 0 ≤ (x3_1 : Int) := of_decide_eq_true (by first | (with_reducible assumption) | assumption)
              have q6 : x3_1 < (a0.size : Int) := of_decide_eq_true (by first | (with_reducible assumption) | assumption)
              have hx6 := bt_at a0 x3_1
              replace p6 := eq_true p6
              replace q6 := eq_true q6
              go_wp2
              go_roundg k1
              case measure => have := HK1.out; omega
              case rel => exact ⟨(wrap64 (x3_1 + 1)), (by first | rfl | (simp; done) | (simp [*]; done)), H', ⟨by have := HK1.out; omega⟩, by repeat (first | exact Drawn0.refl _ | apply Drawn0.step)⟩
            · rw [if_neg c7] at H
              have c7b0 : ((bt a0 x3_1) == 116) = false := beq_eq_false_iff_ne.mpr c7
              have c7b1 : ((bt a0 x3_1) != 116) = true := bne_iff_ne.mpr c7
              by_cases c9 : (bt a0 x3_1) = 82
              · rw [if_pos c9] at H
                have c9b0 : ((bt a0 x3_1) == 82) = true := beq_iff_eq.mpr c9
                have c9b1 : ((bt a0 x3_1) != 82) = false := bne_eq_false_iff_eq.mpr c9
                clear c9
                have H' := Aside0.mk H
                clear H
                have p4 : 0 ≤ (x3_1 : Int) := of_decide_eq_true (by first | (with_reducible assumption) | assumption)
                have q4 : x3_1 < (a0.size : Int) := of_decide_eq_true (by first | (with_reducible assumption) | assumption)
                have hx4 := bt_at a0 x3_1
                replace p4 := eq_true p4
                replace q4 := eq_true q4
                have p6 : 0 ≤ (x3_1 : Int) := of_decide_eq_true (by first | (with_reducible assumption) | assumption)
                have q6 : x3_1 < (a0.size : Int) := of_decide_eq_true (by first | (with_reducible assumption) | assumption)
                have hx6 := bt_at a0 x3_1
                replace p6 := eq_true p6
                replace q6 := eq_true q6
                have p8 : 0 ≤ (x3_1 : Int) := of_decide_eq_true (by first | (with_reducible assumption) | assumption)
                have q8 : x3_1 < (a0.size : Int) := of_decide_eq_true (by first | (with_reducible assumption) | assumption)
                have hx8 := bt_at a0 x3_1
                replace p8 := eq_true p8
                replace q8 := eq_true q8
                go_wp2
                go_roundg k1
                case measure => have := HK1.out; omega
                case rel => exact ⟨(wrap64 (x3_1 + 1)), (by first | rfl | (simp; done) | (simp [*]; done)), H', ⟨by have := HK1.out; omega⟩, by repeat (first | exact Drawn0.refl _ | apply Drawn0.step)⟩
              · rw [if_neg c9] at H
                have c9b0 : ((bt a0 x3_1) == 82) = false := beq_eq_false_iff_ne.mpr c9
                have c9b1 : ((bt a0 x3_1) != 82) = true := bne_iff_ne.mpr c9
                obtain rfl := Option.some.inj H
                have p4 : 0 ≤ (x3_1 : Int) := of_decide_eq_true (by first | (with_reducible assumption) | assumption)
                have q4 : x3_1 < (a0.size : Int) := of_decide_eq_true (by first | (with_reducible assumption) | assumption)
                have hx4 := bt_at a0 x3_1
                replace p4 := eq_true p4
                replace q4 := eq_true q4
                have p6 : 0 ≤ (x3_1 : Int) := of_decide_eq_true (by first | (with_reducible assumption) | assumption)
                have q6 : x3_1 < (a0.size : Int) := of_decide_eq_true (by first | (with_reducible assumption) | assumption)
                have hx6 := bt_at a0 x3_1
                replace p6 := eq_true p6
                replace q6 := eq_true q6
                have p8 : 0 ≤ (x3_1 : Int) := of_decide_eq_true (by first | (with_reducible assumption) | assumption)
                have q8 : x3_1 < (a0.size : Int) := of_decide_eq_true (by first | (with_reducible assumption) | assumption)
                have hx8 := bt_at a0 x3_1
                replace p8 := eq_true p8
                replace q8 := eq_true q8
                go_wp2
                go_ret
                exact ⟨by first | rfl | (simp; done) | (simp [*]; done), by repeat (first | exact Drawn0.refl _ | apply Drawn0.step)⟩
        · rw [if_neg c3] at H
          exact absurd H (by simp)
      · rw [if_neg c2] at H
        have c2b0 : decide (x3_1 < (a0.size : Int)) = false := decide_eq_false c2
        clear c2
        obtain rfl := Option.some.inj H
        go_wp2
        go_ret
        exact ⟨by first | rfl | (simp; done) | (simp [*]; done), by repeat (first | exact Drawn0.refl _ | apply Drawn0.step)⟩

/-! ### spec_DeedText: function 11 -/
mutual
def spec_DeedText.j0 : Nat → Bool → Bool → Int → ByteArray → Option (ByteArray)
  | 0, _, _, _, _ => none
  | k + 1, x4, x11, x149000, x149001 => if x11 = true then (if 6 + x149001.size ≤ 9223372036854775807 then (some ((⟨#[100, 97, 110, 99, 101, 32]⟩ : ByteArray) ++ x149001)) else (none)) else (if x149000 = 1 then (spec_DeedText.j1 k x4 x149000 x149001) else (spec_DeedText.j1 k false x149000 x149001))
def spec_DeedText.j1 : Nat → Bool → Int → ByteArray → Option (ByteArray)
  | 0, _, _, _ => none
  | k + 1, x23, x149000, x149001 => if x23 = true then (if 5 + x149001.size ≤ 9223372036854775807 then (some ((⟨#[116, 97, 107, 101, 32]⟩ : ByteArray) ++ x149001)) else (none)) else (if (x149000 == 2 && (x149001.toList == ([] : List UInt8))) = true then (some (⟨#[109, 105, 114, 114, 111, 114]⟩ : ByteArray)) else (if (x149000 == 3 && (x149001.toList == ([] : List UInt8))) = true then (some (⟨#[117, 110, 116, 105, 101]⟩ : ByteArray)) else (if (x149000 == 4 && (x149001.toList == ([] : List UInt8))) = true then (some (⟨#[98, 97, 99, 107]⟩ : ByteArray)) else (some (⟨#[]⟩ : ByteArray)))))
end
def spec_DeedText.f (k : Nat) (a0_0 : Int) (a0_1 : ByteArray) : Option (ByteArray) := (spec_ReadFraction.f k a0_1).bind fun bt149 => (if a0_0 = 0 then ((spec_DanceOk.f k a0_1).bind fun t153 => (spec_DeedText.j0 k bt149.2.2 t153 a0_0 a0_1)) else (spec_DeedText.j0 k bt149.2.2 false a0_0 a0_1))
theorem spec_DeedText.mono_l : ∀ k, (∀ y0 y1 y2 y3, LeO (spec_DeedText.j0 k y0 y1 y2 y3) (spec_DeedText.j0 (k + 1) y0 y1 y2 y3)) ∧ (∀ y0 y1 y2, LeO (spec_DeedText.j1 k y0 y1 y2) (spec_DeedText.j1 (k + 1) y0 y1 y2))
  | 0 => ⟨fun _ _ _ _ r h => by simp [spec_DeedText.j0] at h, fun _ _ _ r h => by simp [spec_DeedText.j1] at h⟩
  | k + 1 => by
    obtain ⟨ih0, ih1⟩ := spec_DeedText.mono_l k
    refine ⟨?_, ?_⟩
    · intro y0 y1 y2 y3
      unfold spec_DeedText.j0
      repeat' first
      | (with_reducible exact ih0 _ _ _ _)
      | (with_reducible exact ih1 _ _ _)
      | (with_reducible exact spec_DanceOk.mono _ _)
      | (with_reducible exact spec_ReadFraction.mono _ _)
      | (with_reducible exact LeO.refl _)
      | (with_reducible exact LeO.none _)
      | (with_reducible refine LeO.ite ?_ ?_)
      | (with_reducible refine LeO.bind ?_ (fun _ => ?_))
      | exact ih0 _ _ _ _
      | exact ih1 _ _ _
      | exact spec_DanceOk.mono _ _
      | exact spec_ReadFraction.mono _ _
      | exact LeO.none _
      | refine LeO.ite ?_ ?_
      | refine LeO.bind ?_ (fun _ => ?_)
    · intro y0 y1 y2
      unfold spec_DeedText.j1
      repeat' first
      | (with_reducible exact ih0 _ _ _ _)
      | (with_reducible exact ih1 _ _ _)
      | (with_reducible exact spec_DanceOk.mono _ _)
      | (with_reducible exact spec_ReadFraction.mono _ _)
      | (with_reducible exact LeO.refl _)
      | (with_reducible exact LeO.none _)
      | (with_reducible refine LeO.ite ?_ ?_)
      | (with_reducible refine LeO.bind ?_ (fun _ => ?_))
      | exact ih0 _ _ _ _
      | exact ih1 _ _ _
      | exact spec_DanceOk.mono _ _
      | exact spec_ReadFraction.mono _ _
      | exact LeO.none _
      | refine LeO.ite ?_ ?_
      | refine LeO.bind ?_ (fun _ => ?_)
theorem spec_DeedText.mono : ∀ a0 a1 k, LeO (spec_DeedText.f k a0 a1) (spec_DeedText.f (k + 1) a0 a1) := by
  intro a0 a1 k
  obtain ⟨ih0, ih1⟩ := spec_DeedText.mono_l k
  unfold spec_DeedText.f
  repeat' first
      | (with_reducible exact ih0 _ _ _ _)
      | (with_reducible exact ih1 _ _ _)
      | (with_reducible exact spec_DanceOk.mono _ _)
      | (with_reducible exact spec_ReadFraction.mono _ _)
      | (with_reducible exact LeO.refl _)
      | (with_reducible exact LeO.none _)
      | (with_reducible refine LeO.ite ?_ ?_)
      | (with_reducible refine LeO.bind ?_ (fun _ => ?_))
      | exact ih0 _ _ _ _
      | exact ih1 _ _ _
      | exact spec_DanceOk.mono _ _
      | exact spec_ReadFraction.mono _ _
      | exact LeO.none _
      | refine LeO.ite ?_ ?_
      | refine LeO.bind ?_ (fun _ => ?_)
set_option maxHeartbeats 8000000 in
set_option maxRecDepth 100000 in
theorem spec_DeedText.calls (k : Nat) (a0_0 : Int) (a0_1 : ByteArray) (r : ByteArray) (w : World) (h : spec_DeedText.f k a0_0 a0_1 = some r) :
    Calls Tryd.prog 11 #[.agg #[.int .i64 a0_0, .string a0_1]] w fun e w' => e = .returned (.string r) ∧ Below w.heap.size w w' := by
  have hu26 := Tryd.underlying26
  have hu50 := Tryd.underlying50
  have HB := Aside0.mk (Below.refl w.heap.size w)
  have H : ((spec_ReadFraction.f k a0_1).bind fun bt149 => (if a0_0 = 0 then ((spec_DanceOk.f k a0_1).bind fun t153 => (spec_DeedText.j0 k bt149.2.2 t153 a0_0 a0_1)) else (spec_DeedText.j0 k bt149.2.2 false a0_0 a0_1))) = some r := h
  clear h
  replace H := Option.bind_eq_some_iff.mp H
  obtain ⟨⟨t149, t150, t151⟩, A20, H⟩ := H
  replace H : (if a0_0 = 0 then ((spec_DanceOk.f k a0_1).bind fun t153 => (spec_DeedText.j0 k t151 t153 a0_0 a0_1)) else (spec_DeedText.j0 k t151 false a0_0 a0_1)) = some r := H
  have A2 := Aside0.mk A20
  clear A20
  have HC3 := Aside0.mk H
  clear H
  go_enter Tryd.func11, Tryd.ntmps11
  go_upto_region 2 with (first | ((with_reducible refine gate_dst (N := 1) rfl ?_); refine box_event ?hg (N := 1) ?hd (cs := #[.int .i64 a0_0, .string a0_1]) (t := 26) ?hr ?_; (case hd => rfl); (case hg => rfl); (case hr => first | (go_simp; done) | (go_simp; rfl)); intro gb148 hg w4 hbox hb; have BK148 := Aside0.mk (hbox); have GW148 := Aside0.mk (sqG hg (sqB HB)); have GE148 := Aside0.mk (sqG hg (sqB HB)); replace HB := sqS (sqB HB) hb; clear hb hbox hg; have hcz5_0 := sqZ BK148 0 (.int .i64 a0_0); have hcz5_1 := sqZ BK148 1 (.string a0_1); have hfz5_0 := blk_frozen BK148.out 0; have hfz5_1 := blk_frozen BK148.out 1) | ((with_reducible refine gate_callee (f := 31) rfl ?_); refine goesL_ (some 8) rfl rfl Tryd.func31 (by kernel_rfl) rfl #[.string a0_1] rfl sqA ?_; (with_reducible refine (spec_ReadFraction.calls k a0_1 t149 t150 t151 _ A2.out).mono ?_); rintro e w6 ⟨rfl, hb⟩; refine ⟨_, rfl, ?_⟩; replace BK148 := sqT BK148 hb; replace HB := sqS (sqB1 HB GE148) hb; (try clear hb)) | ((with_reducible refine gate_dst (N := 3) rfl ?_); refine box_event ?hg (N := 3) ?hd (cs := #[.int .i64 0, .int .i64 0]) (t := 50) ?hr ?_; (case hd => rfl); (case hg => rfl); (case hr => first | (go_simp; done) | (go_simp; rfl)); intro gb152 hg w7 hbox hb; have BK152 := Aside0.mk (hbox); have GW152 := Aside0.mk (sqG hg (sqB1 HB GE148)); have GE152 := Aside0.mk (sqG hg (sqB1 HB GE148)); replace HB := sqS (sqB1 HB GE148) hb; have NB148_152 := Aside0.mk ((by rw [hg]; exact Nat.ne_of_lt (blk_lt (sqK BK148)) : gb148 ≠ gb152)); have NB152_148 := Aside0.mk ((by rw [hg]; exact Nat.ne_of_gt (blk_lt (sqK BK148)) : gb152 ≠ gb148)); replace BK148 := sqT BK148 hb; clear hb hbox hg; have hnb8 := NB152_148.out; have hnc8 := NB148_152.out; have hcz9_0 := sqZ BK152 0 (.int .i64 0); have hcz9_1 := sqZ BK152 1 (.int .i64 0); have hfz9_0 := blk_frozen BK152.out 0; have hfz9_1 := blk_frozen BK152.out 1))
  (try simp only [Act.put, List.setIfInBounds_toArray, List.set_cons_zero, List.set_cons_succ])
  go_cut [11] (fun v11 wc => ∃ (kq : Nat) (x11_2 : Bool), v11 = .bool x11_2 ∧ Aside0 (spec_DeedText.j0 kq t151 x11_2 a0_0 a0_1 = some r) ∧ Aside0 (kq ≤ k) ∧ Aside0 (wc.heap[gb148]? = some (.cells #[.int .i64 a0_0, .string a0_1] 26 (0, 0))) ∧ Aside0 (wc.heap[gb152]? = some (.cells #[.int .i64 t149, .int .i64 t150] 50 (0, 0))) ∧ Aside0 (Below w.heap.size w wc))
  case first =>
    have H := HC3.out
    clear HC3
    by_cases c10 : a0_0 = 0
    · rw [if_pos c10] at H
      have c10b0 : (a0_0 == 0) = true := beq_iff_eq.mpr c10
      have c10b1 : (a0_0 != 0) = false := bne_eq_false_iff_eq.mpr c10
      clear c10
      (first | rw [c10b0] | (simp only [i64_w, i32_w]; rw [c10b0]) | skip)
      replace H := Option.bind_eq_some_iff.mp H
      obtain ⟨t153, A110, H⟩ := H
      replace H : (spec_DeedText.j0 k t151 t153 a0_0 a0_1) = some r := H
      have A11 := Aside0.mk A110
      clear A110
      have H' := Aside0.mk H
      clear H
      have hnb12 := NB148_152.out
      have hnc12 := NB152_148.out
      have hcz13_0 := sqZ BK148 0 (.int .i64 a0_0)
      have hcz13_1 := sqZ BK148 1 (.string a0_1)
      have hfz13_0 := blk_frozen BK148.out 0
      have hfz13_1 := blk_frozen BK148.out 1
      go_wp2_with (first | (go_at_call 32; (with_reducible refine (spec_DanceOk.calls k a0_1 t153 _ A11.out).mono ?_); rintro e w' ⟨rfl, ⟨nd, rfl⟩⟩))
      go_meet
      case rel => exact ⟨_, (t153), (by first | rfl | (simp; done) | (simp [*]; done)), H', ⟨by first | omega | exact Nat.le_refl _⟩, ⟨by (with_reducible repeat (first | refine blk_drewN ?_ _ | refine blk_drew ?_ | refine blk_alloc ?_ _)); refine blk_far ?_ NB148_152.out _; (with_reducible repeat (first | refine blk_drewN ?_ _ | refine blk_drew ?_ | refine blk_alloc ?_ _)); refine blk_far ?_ NB148_152.out _; (with_reducible repeat (first | refine blk_drewN ?_ _ | refine blk_drew ?_ | refine blk_alloc ?_ _)); exact BK148.out⟩, ⟨by (with_reducible repeat (first | refine blk_drewN ?_ _ | refine blk_drew ?_ | refine blk_alloc ?_ _)); refine blk_put (cs := #[.int .i64 t149, .int .i64 0]) ?_ 1 _ rfl; (with_reducible repeat (first | refine blk_drewN ?_ _ | refine blk_drew ?_ | refine blk_alloc ?_ _)); refine blk_put (cs := #[.int .i64 0, .int .i64 0]) ?_ 0 _ rfl; (with_reducible repeat (first | refine blk_drewN ?_ _ | refine blk_drew ?_ | refine blk_alloc ?_ _)); exact BK152.out⟩, ⟨sqB2 HB GE148 GE152⟩⟩
    · rw [if_neg c10] at H
      have c10b0 : (a0_0 == 0) = false := beq_eq_false_iff_ne.mpr c10
      have c10b1 : (a0_0 != 0) = true := bne_iff_ne.mpr c10
      (first | rw [c10b0] | (simp only [i64_w, i32_w]; rw [c10b0]) | skip)
      have H' := Aside0.mk H
      clear H
      have hnb14 := NB148_152.out
      have hnc14 := NB152_148.out
      have hcz15_0 := sqZ BK148 0 (.int .i64 a0_0)
      have hcz15_1 := sqZ BK148 1 (.string a0_1)
      have hfz15_0 := blk_frozen BK148.out 0
      have hfz15_1 := blk_frozen BK148.out 1
      go_wp2
      go_meet
      case rel => exact ⟨_, (false), (by first | rfl | (simp; done) | (simp [*]; done)), H', ⟨by first | omega | exact Nat.le_refl _⟩, ⟨by (with_reducible repeat (first | refine blk_drewN ?_ _ | refine blk_drew ?_ | refine blk_alloc ?_ _)); refine blk_far ?_ NB148_152.out _; (with_reducible repeat (first | refine blk_drewN ?_ _ | refine blk_drew ?_ | refine blk_alloc ?_ _)); refine blk_far ?_ NB148_152.out _; (with_reducible repeat (first | refine blk_drewN ?_ _ | refine blk_drew ?_ | refine blk_alloc ?_ _)); exact BK148.out⟩, ⟨by (with_reducible repeat (first | refine blk_drewN ?_ _ | refine blk_drew ?_ | refine blk_alloc ?_ _)); refine blk_put (cs := #[.int .i64 t149, .int .i64 0]) ?_ 1 _ rfl; (with_reducible repeat (first | refine blk_drewN ?_ _ | refine blk_drew ?_ | refine blk_alloc ?_ _)); refine blk_put (cs := #[.int .i64 0, .int .i64 0]) ?_ 0 _ rfl; (with_reducible repeat (first | refine blk_drewN ?_ _ | refine blk_drew ?_ | refine blk_alloc ?_ _)); exact BK152.out⟩, ⟨sqB2 HB GE148 GE152⟩⟩
  case rest =>
    clear HC3
    try clear c1
    try clear p2
    try clear c3
    try clear c8
    try clear c10
    try clear c10b0
    try clear c10b1
    try clear c11
    try clear c12
    try clear c14
    try clear hcz13_0
    try clear hcz13_1
    try clear hcz15_0
    try clear hcz15_1
    try clear hcz5_0
    try clear hcz5_1
    try clear hcz9_0
    try clear hcz9_1
    try clear hfz13_0
    try clear hfz13_1
    try clear hfz15_0
    try clear hfz15_1
    try clear hfz5_0
    try clear hfz5_1
    try clear hfz9_0
    try clear hfz9_1
    obtain ⟨kq, x11_2, rfl, HA, HJ2, BK148, BK152, HB⟩ := hcut
    cases kq with
    | zero => exact absurd HA.out (by simp [spec_DeedText.j0])
    | succ kj2 =>
      have H := HA.out
      clear HA
      simp only [spec_DeedText.j0] at H
      by_cases c16 : x11_2 = true
      · subst c16
        have H1 : (if 6 + a0_1.size ≤ 9223372036854775807 then (some ((⟨#[100, 97, 110, 99, 101, 32]⟩ : ByteArray) ++ a0_1)) else (none)) = some r := by rw [if_pos rfl] at H; exact H
        clear H
        have H := H1
        clear H1
        by_cases c17 : 6 + a0_1.size ≤ 9223372036854775807
        · rw [if_pos c17] at H
          have c17b0 := eq_true c17
          have c17b1 : decide (6 + a0_1.size ≤ 9223372036854775807) = true := decide_eq_true c17
          try have c17b2 : (9223372036854775807 < 6 + a0_1.size) = False := eq_false (Nat.not_lt.2 c17)
          obtain rfl := Option.some.inj H
          have hnb18 := NB148_152.out
          have hnc18 := NB152_148.out
          have hcz19_0 := sqZ BK148 0 (.int .i64 a0_0)
          have hcz19_1 := sqZ BK148 1 (.string a0_1)
          have hfz19_0 := blk_frozen BK148.out 0
          have hfz19_1 := blk_frozen BK148.out 1
          go_wp2
          go_ret
          exact ⟨by first | rfl | (simp [errP_none, errP_some] <;> rfl) | (simp [*, errP_none, errP_some] <;> rfl), sqB2 HB GE148 GE152⟩
        · rw [if_neg c17] at H
          exact absurd H (by simp)
      · replace c16 := Bool.eq_false_iff.mpr c16
        subst c16
        have H1 : (if a0_0 = 1 then (spec_DeedText.j1 kj2 t151 a0_0 a0_1) else (spec_DeedText.j1 kj2 false a0_0 a0_1)) = some r := by rw [if_neg (show ¬ (false = true) by decide)] at H; exact H
        clear H
        have H := H1
        clear H1
        have HC20 := Aside0.mk H
        clear H
        go_upto_region 4 with (fail)
        go_cut [23] (fun v23 wc => ∃ (kq : Nat) (x23_19 : Bool), v23 = .bool x23_19 ∧ Aside0 (spec_DeedText.j1 kq x23_19 a0_0 a0_1 = some r) ∧ Aside0 (kq ≤ kj2) ∧ Aside0 (wc.heap[gb148]? = some (.cells #[.int .i64 a0_0, .string a0_1] 26 (0, 0))) ∧ Aside0 (wc.heap[gb152]? = some (.cells #[.int .i64 t149, .int .i64 t150] 50 (0, 0))) ∧ Aside0 (Below w.heap.size w wc))
        case first =>
          have H := HC20.out
          clear HC20
          by_cases c21 : a0_0 = 1
          · rw [if_pos c21] at H
            have c21b0 : (a0_0 == 1) = true := beq_iff_eq.mpr c21
            have c21b1 : (a0_0 != 1) = false := bne_eq_false_iff_eq.mpr c21
            clear c21
            (first | rw [c21b0] | (simp only [i64_w, i32_w]; rw [c21b0]) | skip)
            have H' := Aside0.mk H
            clear H
            have hnb22 := NB148_152.out
            have hnc22 := NB152_148.out
            have hcz23_0 := sqZ BK148 0 (.int .i64 a0_0)
            have hcz23_1 := sqZ BK148 1 (.string a0_1)
            have hfz23_0 := blk_frozen BK148.out 0
            have hfz23_1 := blk_frozen BK148.out 1
            go_wp2
            go_meet
            case rel => exact ⟨_, (t151), (by first | rfl | (simp; done) | (simp [*]; done)), H', ⟨by have := HJ2.out; first | omega | exact Nat.le_refl _⟩, ⟨sqK BK148⟩, ⟨sqK BK152⟩, ⟨sqB2 HB GE148 GE152⟩⟩
          · rw [if_neg c21] at H
            have c21b0 : (a0_0 == 1) = false := beq_eq_false_iff_ne.mpr c21
            have c21b1 : (a0_0 != 1) = true := bne_iff_ne.mpr c21
            (first | rw [c21b0] | (simp only [i64_w, i32_w]; rw [c21b0]) | skip)
            have H' := Aside0.mk H
            clear H
            have hnb24 := NB148_152.out
            have hnc24 := NB152_148.out
            have hcz25_0 := sqZ BK148 0 (.int .i64 a0_0)
            have hcz25_1 := sqZ BK148 1 (.string a0_1)
            have hfz25_0 := blk_frozen BK148.out 0
            have hfz25_1 := blk_frozen BK148.out 1
            go_wp2
            go_meet
            case rel => exact ⟨_, (false), (by first | rfl | (simp; done) | (simp [*]; done)), H', ⟨by have := HJ2.out; first | omega | exact Nat.le_refl _⟩, ⟨sqK BK148⟩, ⟨sqK BK152⟩, ⟨sqB2 HB GE148 GE152⟩⟩
        case rest =>
          clear HC20
          try clear c1
          try clear c2
          try clear p2
          try clear c3
          try clear c8
          try clear c10
          try clear c10b0
          try clear c10b1
          try clear c11
          try clear c12
          try clear c14
          try clear c16
          try clear c17
          try clear c17b0
          try clear c17b1
          try clear c17b2
          try clear c18
          try clear c21
          try clear c21b0
          try clear c21b1
          try clear c22
          try clear c24
          try clear hcz13_0
          try clear hcz13_1
          try clear hcz15_0
          try clear hcz15_1
          try clear hcz19_0
          try clear hcz19_1
          try clear hcz23_0
          try clear hcz23_1
          try clear hcz25_0
          try clear hcz25_1
          try clear hcz5_0
          try clear hcz5_1
          try clear hcz9_0
          try clear hcz9_1
          try clear hfz13_0
          try clear hfz13_1
          try clear hfz15_0
          try clear hfz15_1
          try clear hfz19_0
          try clear hfz19_1
          try clear hfz23_0
          try clear hfz23_1
          try clear hfz25_0
          try clear hfz25_1
          try clear hfz5_0
          try clear hfz5_1
          try clear hfz9_0
          try clear hfz9_1
          try clear p2
          obtain ⟨kq, x23_19, rfl, HA, HJ19, BK148, BK152, HB⟩ := hcut
          cases kq with
          | zero => exact absurd HA.out (by simp [spec_DeedText.j1])
          | succ kj19 =>
            have H := HA.out
            clear HA
            simp only [spec_DeedText.j1] at H
            by_cases c26 : x23_19 = true
            · subst c26
              have H1 : (if 5 + a0_1.size ≤ 9223372036854775807 then (some ((⟨#[116, 97, 107, 101, 32]⟩ : ByteArray) ++ a0_1)) else (none)) = some r := by rw [if_pos rfl] at H; exact H
              clear H
              have H := H1
              clear H1
              by_cases c27 : 5 + a0_1.size ≤ 9223372036854775807
              · rw [if_pos c27] at H
                have c27b0 := eq_true c27
                have c27b1 : decide (5 + a0_1.size ≤ 9223372036854775807) = true := decide_eq_true c27
                try have c27b2 : (9223372036854775807 < 5 + a0_1.size) = False := eq_false (Nat.not_lt.2 c27)
                obtain rfl := Option.some.inj H
                have hnb28 := NB148_152.out
                have hnc28 := NB152_148.out
                have hcz29_0 := sqZ BK148 0 (.int .i64 a0_0)
                have hcz29_1 := sqZ BK148 1 (.string a0_1)
                have hfz29_0 := blk_frozen BK148.out 0
                have hfz29_1 := blk_frozen BK148.out 1
                go_wp2
                go_ret
                exact ⟨by first | rfl | (simp [errP_none, errP_some] <;> rfl) | (simp [*, errP_none, errP_some] <;> rfl), sqB2 HB GE148 GE152⟩
              · rw [if_neg c27] at H
                exact absurd H (by simp)
            · replace c26 := Bool.eq_false_iff.mpr c26
              subst c26
              have H1 : (if (a0_0 == 2 && (a0_1.toList == ([] : List UInt8))) = true then (some (⟨#[109, 105, 114, 114, 111, 114]⟩ : ByteArray)) else (if (a0_0 == 3 && (a0_1.toList == ([] : List UInt8))) = true then (some (⟨#[117, 110, 116, 105, 101]⟩ : ByteArray)) else (if (a0_0 == 4 && (a0_1.toList == ([] : List UInt8))) = true then (some (⟨#[98, 97, 99, 107]⟩ : ByteArray)) else (some (⟨#[]⟩ : ByteArray))))) = some r := by rw [if_neg (show ¬ (false = true) by decide)] at H; exact H
              clear H
              have H := H1
              clear H1
              by_cases c30 : (a0_0 == 2 && (a0_1.toList == ([] : List UInt8))) = true
              · rw [if_pos c30] at H
                have c30b0 : (a0_0 == 2 && (a0_1.toList == ([] : List UInt8))) = true := c30
                try have c30b8 : (a0_0 == 2 && a0_1.toList.isEmpty) = true := by (have h_ := c30b0; (repeat rw [show ∀ z : List UInt8, (z == ([] : List UInt8)) = z.isEmpty from fun z => by cases z <;> rfl] at h_); exact h_)
                (try (have c30b1 : decide (a0_0 = 2 && (a0_1.toList == ([] : List UInt8))) = true := by simpa using c30))
                (try (have c30b2 : (a0_0 == 2 && (a0_1.toList == ([] : List UInt8))) = true := by simpa using c30))
                clear c30
                obtain rfl := Option.some.inj H
                have hnb31 := NB148_152.out
                have hnc31 := NB152_148.out
                have hcz32_0 := sqZ BK148 0 (.int .i64 a0_0)
                have hcz32_1 := sqZ BK148 1 (.string a0_1)
                have hfz32_0 := blk_frozen BK148.out 0
                have hfz32_1 := blk_frozen BK148.out 1
                go_wp2
                go_ret
                exact ⟨by first | rfl | (simp [errP_none, errP_some] <;> rfl) | (simp [*, errP_none, errP_some] <;> rfl), sqB2 HB GE148 GE152⟩
              · rw [if_neg c30] at H
                have c30b0 : (a0_0 == 2 && (a0_1.toList == ([] : List UInt8))) = false := by simpa using c30
                try have c30b8 : (a0_0 == 2 && a0_1.toList.isEmpty) = false := by (have h_ := c30b0; (repeat rw [show ∀ z : List UInt8, (z == ([] : List UInt8)) = z.isEmpty from fun z => by cases z <;> rfl] at h_); exact h_)
                (try (have c30b1 : decide (a0_0 = 2 && (a0_1.toList == ([] : List UInt8))) = false := by simpa using c30))
                (try (have c30b2 : (a0_0 == 2 && (a0_1.toList == ([] : List UInt8))) = false := by simpa using c30))
                (try (have c30b3 : ¬ (a0_0 = 2 && (a0_1.toList == ([] : List UInt8))) := by simpa using c30))
                clear c30
                by_cases c33 : (a0_0 == 3 && (a0_1.toList == ([] : List UInt8))) = true
                · rw [if_pos c33] at H
                  have c33b0 : (a0_0 == 3 && (a0_1.toList == ([] : List UInt8))) = true := c33
                  try have c33b8 : (a0_0 == 3 && a0_1.toList.isEmpty) = true := by (have h_ := c33b0; (repeat rw [show ∀ z : List UInt8, (z == ([] : List UInt8)) = z.isEmpty from fun z => by cases z <;> rfl] at h_); exact h_)
                  (try (have c33b1 : decide (a0_0 = 3 && (a0_1.toList == ([] : List UInt8))) = true := by simpa using c33))
                  (try (have c33b2 : (a0_0 == 3 && (a0_1.toList == ([] : List UInt8))) = true := by simpa using c33))
                  clear c33
                  obtain rfl := Option.some.inj H
                  have hnb34 := NB148_152.out
                  have hnc34 := NB152_148.out
                  have hcz35_0 := sqZ BK148 0 (.int .i64 a0_0)
                  have hcz35_1 := sqZ BK148 1 (.string a0_1)
                  have hfz35_0 := blk_frozen BK148.out 0
                  have hfz35_1 := blk_frozen BK148.out 1
                  go_wp2
                  go_ret
                  exact ⟨by first | rfl | (simp [errP_none, errP_some] <;> rfl) | (simp [*, errP_none, errP_some] <;> rfl), sqB2 HB GE148 GE152⟩
                · rw [if_neg c33] at H
                  have c33b0 : (a0_0 == 3 && (a0_1.toList == ([] : List UInt8))) = false := by simpa using c33
                  try have c33b8 : (a0_0 == 3 && a0_1.toList.isEmpty) = false := by (have h_ := c33b0; (repeat rw [show ∀ z : List UInt8, (z == ([] : List UInt8)) = z.isEmpty from fun z => by cases z <;> rfl] at h_); exact h_)
                  (try (have c33b1 : decide (a0_0 = 3 && (a0_1.toList == ([] : List UInt8))) = false := by simpa using c33))
                  (try (have c33b2 : (a0_0 == 3 && (a0_1.toList == ([] : List UInt8))) = false := by simpa using c33))
                  (try (have c33b3 : ¬ (a0_0 = 3 && (a0_1.toList == ([] : List UInt8))) := by simpa using c33))
                  clear c33
                  by_cases c36 : (a0_0 == 4 && (a0_1.toList == ([] : List UInt8))) = true
                  · rw [if_pos c36] at H
                    have c36b0 : (a0_0 == 4 && (a0_1.toList == ([] : List UInt8))) = true := c36
                    try have c36b8 : (a0_0 == 4 && a0_1.toList.isEmpty) = true := by (have h_ := c36b0; (repeat rw [show ∀ z : List UInt8, (z == ([] : List UInt8)) = z.isEmpty from fun z => by cases z <;> rfl] at h_); exact h_)
                    (try (have c36b1 : decide (a0_0 = 4 && (a0_1.toList == ([] : List UInt8))) = true := by simpa using c36))
                    (try (have c36b2 : (a0_0 == 4 && (a0_1.toList == ([] : List UInt8))) = true := by simpa using c36))
                    clear c36
                    obtain rfl := Option.some.inj H
                    have hnb37 := NB148_152.out
                    have hnc37 := NB152_148.out
                    have hcz38_0 := sqZ BK148 0 (.int .i64 a0_0)
                    have hcz38_1 := sqZ BK148 1 (.string a0_1)
                    have hfz38_0 := blk_frozen BK148.out 0
                    have hfz38_1 := blk_frozen BK148.out 1
                    go_wp2
                    go_ret
                    exact ⟨by first | rfl | (simp [errP_none, errP_some] <;> rfl) | (simp [*, errP_none, errP_some] <;> rfl), sqB2 HB GE148 GE152⟩
                  · rw [if_neg c36] at H
                    have c36b0 : (a0_0 == 4 && (a0_1.toList == ([] : List UInt8))) = false := by simpa using c36
                    try have c36b8 : (a0_0 == 4 && a0_1.toList.isEmpty) = false := by (have h_ := c36b0; (repeat rw [show ∀ z : List UInt8, (z == ([] : List UInt8)) = z.isEmpty from fun z => by cases z <;> rfl] at h_); exact h_)
                    (try (have c36b1 : decide (a0_0 = 4 && (a0_1.toList == ([] : List UInt8))) = false := by simpa using c36))
                    (try (have c36b2 : (a0_0 == 4 && (a0_1.toList == ([] : List UInt8))) = false := by simpa using c36))
                    (try (have c36b3 : ¬ (a0_0 = 4 && (a0_1.toList == ([] : List UInt8))) := by simpa using c36))
                    clear c36
                    obtain rfl := Option.some.inj H
                    have hnb39 := NB148_152.out
                    have hnc39 := NB152_148.out
                    have hcz40_0 := sqZ BK148 0 (.int .i64 a0_0)
                    have hcz40_1 := sqZ BK148 1 (.string a0_1)
                    have hfz40_0 := blk_frozen BK148.out 0
                    have hfz40_1 := blk_frozen BK148.out 1
                    go_wp2
                    go_ret
                    exact ⟨by first | rfl | (simp [errP_none, errP_some] <;> rfl) | (simp [*, errP_none, errP_some] <;> rfl), sqB2 HB GE148 GE152⟩

end Go.Proofs.YtnojjblkmepblaaDoor.PFnExactJournalText
