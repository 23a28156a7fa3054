/- Lean functions of the Go functions that the law FnReadDeed reaches, each with its contract: made by a program of this session. -/
import Derived.Test.YtnojjblkmepblaaDoorPFnReadDeedx0
import Derived.Test.YtnojjblkmepblaaDoorPFnReadDeedx1
import Derived.Test.YtnojjblkmepblaaDoorPFnReadDeedx5
namespace Go.Proofs.YtnojjblkmepblaaDoor.PFnReadDeed
open Go.RowKit Go.Proofs.YtnojjblkmepblaaDoorW.PrintWords Go.Proofs.YtnojjblkmepblaaDoorW.PrintLast Go.Proofs.YtnojjblkmepblaaDoorW.PrintMore Go.Proofs.YtnojjblkmepblaaDoor.Lib
attribute [local go_sem] max2_int min2_int max_two min_two max_three min_three max_four min_four   -- for this text's walks alone
set_option linter.unusedVariables false
set_option linter.unusedSimpArgs false

attribute [local go_sem high] eqA26
/-! ### spec_DanceOk: function 32 -/
def spec_DanceOk.l0 : Nat → ByteArray → Int → Option (Bool)
  | 0, _, _ => none
  | k + 1, x0, x3 => if x3 < (x0.size : Int) then (if 0 ≤ x3 then (if (bt x0 x3) = 84 then (spec_DanceOk.l0 k x0 (wrap64 (x3 + 1))) else (if (bt x0 x3) = 116 then (spec_DanceOk.l0 k x0 (wrap64 (x3 + 1))) else (if (bt x0 x3) = 82 then (spec_DanceOk.l0 k x0 (wrap64 (x3 + 1))) else (some false)))) else (none)) else (some (decide ((x0.size : Int) ≤ 40)))
def spec_DanceOk.f (k : Nat) (a0 : ByteArray) : Option (Bool) := spec_DanceOk.l0 k a0 0
theorem spec_DanceOk.mono_l : ∀ k, (∀ y0 y1, LeO (spec_DanceOk.l0 k y0 y1) (spec_DanceOk.l0 (k + 1) y0 y1))
  | 0 => fun _ _ r h => by simp [spec_DanceOk.l0] at h
  | k + 1 => by
    have ih0 := spec_DanceOk.mono_l k
    · intro y0 y1
      unfold spec_DanceOk.l0
      repeat' first
      | (with_reducible exact ih0 _ _)
      | (with_reducible exact LeO.refl _)
      | (with_reducible exact LeO.none _)
      | (with_reducible refine LeO.ite ?_ ?_)
      | (with_reducible refine LeO.bind ?_ (fun _ => ?_))
      | exact ih0 _ _
      | exact LeO.none _
      | refine LeO.ite ?_ ?_
      | refine LeO.bind ?_ (fun _ => ?_)
theorem spec_DanceOk.mono : ∀ a0 k, LeO (spec_DanceOk.f k a0) (spec_DanceOk.f (k + 1) a0) := by
  intro a0 k
  have ih0 := spec_DanceOk.mono_l k
  unfold spec_DanceOk.f
  repeat' first
      | (with_reducible exact ih0 _ _)
      | (with_reducible exact LeO.refl _)
      | (with_reducible exact LeO.none _)
      | (with_reducible refine LeO.ite ?_ ?_)
      | (with_reducible refine LeO.bind ?_ (fun _ => ?_))
      | exact ih0 _ _
      | exact LeO.none _
      | refine LeO.ite ?_ ?_
      | refine LeO.bind ?_ (fun _ => ?_)
set_option maxHeartbeats 8000000 in
set_option maxRecDepth 100000 in
theorem spec_DanceOk.calls (k : Nat) (a0 : ByteArray) (r : Bool) (w : World) (h : spec_DanceOk.f k a0 = some r) :
    Calls Tryd.prog 32 #[.string a0] w fun e w' => e = .returned (.bool r) ∧ Drawn0 w w' := by
  have H : (spec_DanceOk.l0 k a0 0) = some r := h
  clear h
  have H' := Aside0.mk H
  clear H
  go_enter Tryd.func32, Tryd.ntmps32
  go_wp2
  go_loopg [3] k (fun kq v3 w' => ∃ (x3_1 : Int), v3 = .int .i64 x3_1 ∧ Aside0 (spec_DanceOk.l0 kq a0 x3_1 = some r) ∧ Aside0 (kq ≤ k) ∧ Drawn0 w w')
  case atStart => exact ⟨(0), (by first | rfl | (simp; done) | (simp [*]; done)), H', ⟨Nat.le_refl _⟩, by repeat (first | exact Drawn0.refl _ | apply Drawn0.step)⟩
  case round =>
    clear H'
    obtain ⟨x3_1, rfl, HA, HK1, ⟨m1, rfl⟩⟩ := hrel
    cases gk with
    | zero => exact absurd HA.out (by simp [spec_DanceOk.l0])
    | succ k1 =>
      have H := HA.out
      clear HA
      simp only [spec_DanceOk.l0] at H
      by_cases c2 : x3_1 < (a0.size : Int)
      · rw [if_pos c2] at H
        have c2b0 : decide (x3_1 < (a0.size : Int)) = true := decide_eq_true c2
        clear c2
        by_cases c3 : 0 ≤ x3_1
        · rw [if_pos c3] at H
          have c3b0 : decide (0 ≤ x3_1) = true := decide_eq_true c3
          clear c3
          by_cases c5 : (bt a0 x3_1) = 84
          · rw [if_pos c5] at H
            have c5b0 : ((bt a0 x3_1) == 84) = true := beq_iff_eq.mpr c5
            have c5b1 : ((bt a0 x3_1) != 84) = false := bne_eq_false_iff_eq.mpr c5
            clear c5
            have H' := Aside0.mk H
            clear H
            have p4 : 0 ≤ (x3_1 : Int) := of_decide_eq_true (by first | (with_reducible assumption) | assumption)
            have q4 : x3_1 < (a0.size : Int) := of_decide_eq_true (by first | (with_reducible assumption) | assumption)
            have hx4 := bt_at a0 x3_1
            replace p4 := eq_true p4
            replace q4 := eq_true q4
            go_wp2
            go_roundg k1
            case measure => have := HK1.out; omega
            case rel => exact ⟨(wrap64 (x3_1 + 1)), (by first | rfl | (simp; done) | (simp [*]; done)), H', ⟨by have := HK1.out; omega⟩, by repeat (first | exact Drawn0.refl _ | apply Drawn0.step)⟩
          · rw [if_neg c5] at H
            have c5b0 : ((bt a0 x3_1) == 84) = false := beq_eq_false_iff_ne.mpr c5
            have c5b1 : ((bt a0 x3_1) != 84) = true := bne_iff_ne.mpr c5
            by_cases c7 : (bt a0 x3_1) = 116
            · rw [if_pos c7] at H
              have c7b0 : ((bt a0 x3_1) == 116) = true := beq_iff_eq.mpr c7
              have c7b1 : ((bt a0 x3_1) != 116) = false := bne_eq_false_iff_eq.mpr c7
              clear c7
              have H' := Aside0.mk H
              clear H
              have p4 : 0 ≤ (x3_1 : Int) := of_decide_eq_true (by first | (with_reducible assumption) | assumption)
              have q4 : x3_1 < (a0.size : Int) := of_decide_eq_true (by first | (with_reducible assumption) | assumption)
              have hx4 := bt_at a0 x3_1
              replace p4 := eq_true p4
              replace q4 := eq_true q4
              have p6 : 0 ≤ (x3_1 : Int) := of_decide_eq_true (by first | (with_reducible assumption) | assumption)
              have q6 : x3_1 < (a0.size : Int) := of_decide_eq_true (by first | (with_reducible assumption) | assumption)
              have hx6 := bt_at a0 x3_1
              replace p6 := eq_true p6
              replace q6 := eq_true q6
              go_wp2
              go_roundg k1
              case measure => have := HK1.out; omega
              case rel => exact ⟨(wrap64 (x3_1 + 1)), (by first | rfl | (simp; done) | (simp [*]; done)), H', ⟨by have := HK1.out; omega⟩, by repeat (first | exact Drawn0.refl _ | apply Drawn0.step)⟩
            · rw [if_neg c7] at H
              have c7b0 : ((bt a0 x3_1) == 116) = false := beq_eq_false_iff_ne.mpr c7
              have c7b1 : ((bt a0 x3_1) != 116) = true := bne_iff_ne.mpr c7
              by_cases c9 : (bt a0 x3_1) = 82
              · rw [if_pos c9] at H
                have c9b0 : ((bt a0 x3_1) == 82) = true := beq_iff_eq.mpr c9
                have c9b1 : ((bt a0 x3_1) != 82) = false := bne_eq_false_iff_eq.mpr c9
                clear c9
                have H' := Aside0.mk H
                clear H
                have p4 : 0 ≤ (x3_1 : Int) := of_decide_eq_true (by first | (with_reducible assumption) | assumption)
                have q4 : x3_1 < (a0.size : Int) := of_decide_eq_true (by first | (with_reducible assumption) | assumption)
                have hx4 := bt_at a0 x3_1
                replace p4 := eq_true p4
                replace q4 := eq_true q4
                have p6 : 0 ≤ (x3_1 : Int) := of_decide_eq_true (by first | (with_reducible assumption) | assumption)
                have q6 : x3_1 < (a0.size : Int) := of_decide_eq_true (by first | (with_reducible assumption) | assumption)
                have hx6 := bt_at a0 x3_1
                replace p6 := eq_true p6
                replace q6 := eq_true q6
                have p8 : 0 ≤ (x3_1 : Int) := of_decide_eq_true (by first | (with_reducible assumption) | assumption)
                have q8 : x3_1 < (a0.size : Int) := of_decide_eq_true (by first | (with_reducible assumption) | assumption)
                have hx8 := bt_at a0 x3_1
                replace p8 := eq_true p8
                replace q8 := eq_true q8
                go_wp2
                go_roundg k1
                case measure => have := HK1.out; omega
                case rel => exact ⟨(wrap64 (x3_1 + 1)), (by first | rfl | (simp; done) | (simp [*]; done)), H', ⟨by have := HK1.out; omega⟩, by repeat (first | exact Drawn0.refl _ | apply Drawn0.step)⟩
              · rw [if_neg c9] at H
                have c9b0 : ((bt a0 x3_1) == 82) = false := beq_eq_false_iff_ne.mpr c9
                have c9b1 : ((bt a0 x3_1) != 82) = true := bne_iff_ne.mpr c9
                obtain rfl := Option.some.inj H
                have p4 : 0 ≤ (x3_1 : Int) := of_decide_eq_true (by first | (with_reducible assumption) | assumption)
                have q4 : x3_1 < (a0.size : Int) := of_decide_eq_true (by first | (with_reducible assumption) | assumption)
                have hx4 := bt_at a0 x3_1
                replace p4 := eq_true p4
                replace q4 := eq_true q4
                have p6 : 0 ≤ (x3_1 : Int) := of_decide_eq_true (by first | (with_reducible assumption) | assumption)
                have q6 : x3_1 < (a0.size : Int) := of_decide_eq_true (by first | (with_reducible assumption) | assumption)
                have hx6 := bt_at a0 x3_1
                replace p6 := eq_true p6
                replace q6 := eq_true q6
                have p8 : 0 ≤ (x3_1 : Int) := of_decide_eq_true (by first | (with_reducible assumption) | assumption)
                have q8 : x3_1 < (a0.size : Int) := of_decide_eq_true (by first | (with_reducible assumption) | assumption)
                have hx8 := bt_at a0 x3_1
                replace p8 := eq_true p8
                replace q8 := eq_true q8
                go_wp2
                go_ret
                exact ⟨by first | rfl | (simp; done) | (simp [*]; done), by repeat (first | exact Drawn0.refl _ | apply Drawn0.step)⟩
        · rw [if_neg c3] at H
          exact absurd H (by simp)
      · rw [if_neg c2] at H
        have c2b0 : decide (x3_1 < (a0.size : Int)) = false := decide_eq_false c2
        clear c2
        obtain rfl := Option.some.inj H
        go_wp2
        go_ret
        exact ⟨by first | rfl | (simp; done) | (simp [*]; done), by repeat (first | exact Drawn0.refl _ | apply Drawn0.step)⟩

/-! ### spec_DeedText: function 11 -/
mutual
def spec_DeedText.j0 : Nat → Bool → Bool → Int → ByteArray → Option (ByteArray)
  | 0, _, _, _, _ => none
  | k + 1, x4, x11, x177000, x177001 => if x11 = true then (if 6 + x177001.size ≤ 9223372036854775807 then (some ((⟨#[100, 97, 110, 99, 101, 32]⟩ : ByteArray) ++ x177001)) else (none)) else (if x177000 = 1 then (spec_DeedText.j1 k x4 x177000 x177001) else (spec_DeedText.j1 k false x177000 x177001))
def spec_DeedText.j1 : Nat → Bool → Int → ByteArray → Option (ByteArray)
  | 0, _, _, _ => none
  | k + 1, x23, x177000, x177001 => if x23 = true then (if 5 + x177001.size ≤ 9223372036854775807 then (some ((⟨#[116, 97, 107, 101, 32]⟩ : ByteArray) ++ x177001)) else (none)) else (if (x177000 == 2 && (x177001.toList == ([] : List UInt8))) = true then (some (⟨#[109, 105, 114, 114, 111, 114]⟩ : ByteArray)) else (if (x177000 == 3 && (x177001.toList == ([] : List UInt8))) = true then (some (⟨#[117, 110, 116, 105, 101]⟩ : ByteArray)) else (if (x177000 == 4 && (x177001.toList == ([] : List UInt8))) = true then (some (⟨#[98, 97, 99, 107]⟩ : ByteArray)) else (some (⟨#[]⟩ : ByteArray)))))
end
def spec_DeedText.f (k : Nat) (a0_0 : Int) (a0_1 : ByteArray) : Option (ByteArray) := (spec_ReadFraction.f k a0_1).bind fun bt177 => (if a0_0 = 0 then ((spec_DanceOk.f k a0_1).bind fun t181 => (spec_DeedText.j0 k bt177.2.2 t181 a0_0 a0_1)) else (spec_DeedText.j0 k bt177.2.2 false a0_0 a0_1))
theorem spec_DeedText.mono_l : ∀ k, (∀ y0 y1 y2 y3, LeO (spec_DeedText.j0 k y0 y1 y2 y3) (spec_DeedText.j0 (k + 1) y0 y1 y2 y3)) ∧ (∀ y0 y1 y2, LeO (spec_DeedText.j1 k y0 y1 y2) (spec_DeedText.j1 (k + 1) y0 y1 y2))
  | 0 => ⟨fun _ _ _ _ r h => by simp [spec_DeedText.j0] at h, fun _ _ _ r h => by simp [spec_DeedText.j1] at h⟩
  | k + 1 => by
    obtain ⟨ih0, ih1⟩ := spec_DeedText.mono_l k
    refine ⟨?_, ?_⟩
    · intro y0 y1 y2 y3
      unfold spec_DeedText.j0
      repeat' first
      | (with_reducible exact ih0 _ _ _ _)
      | (with_reducible exact ih1 _ _ _)
      | (with_reducible exact spec_DanceOk.mono _ _)
      | (with_reducible exact spec_ReadFraction.mono _ _)
      | (with_reducible exact LeO.refl _)
      | (with_reducible exact LeO.none _)
      | (with_reducible refine LeO.ite ?_ ?_)
      | (with_reducible refine LeO.bind ?_ (fun _ => ?_))
      | exact ih0 _ _ _ _
      | exact ih1 _ _ _
      | exact spec_DanceOk.mono _ _
      | exact spec_ReadFraction.mono _ _
      | exact LeO.none _
      | refine LeO.ite ?_ ?_
      | refine LeO.bind ?_ (fun _ => ?_)
    · intro y0 y1 y2
      unfold spec_DeedText.j1
      repeat' first
      | (with_reducible exact ih0 _ _ _ _)
      | (with_reducible exact ih1 _ _ _)
      | (with_reducible exact spec_DanceOk.mono _ _)
      | (with_reducible exact spec_ReadFraction.mono _ _)
      | (with_reducible exact LeO.refl _)
      | (with_reducible exact LeO.none _)
      | (with_reducible refine LeO.ite ?_ ?_)
      | (with_reducible refine LeO.bind ?_ (fun _ => ?_))
      | exact ih0 _ _ _ _
      | exact ih1 _ _ _
      | exact spec_DanceOk.mono _ _
      | exact spec_ReadFraction.mono _ _
      | exact LeO.none _
      | refine LeO.ite ?_ ?_
      | refine LeO.bind ?_ (fun _ => ?_)
theorem spec_DeedText.mono : ∀ a0 a1 k, LeO (spec_DeedText.f k a0 a1) (spec_DeedText.f (k + 1) a0 a1) := by
  intro a0 a1 k
  obtain ⟨ih0, ih1⟩ := spec_DeedText.mono_l k
  unfold spec_DeedText.f
  repeat' first
      | (with_reducible exact ih0 _ _ _ _)
      | (with_reducible exact ih1 _ _ _)
      | (with_reducible exact spec_DanceOk.mono _ _)
      | (with_reducible exact spec_ReadFraction.mono _ _)
      | (with_reducible exact LeO.refl _)
      | (with_reducible exact LeO.none _)
      | (with_reducible refine LeO.ite ?_ ?_)
      | (with_reducible refine LeO.bind ?_ (fun _ => ?_))
      | exact ih0 _ _ _ _
      | exact ih1 _ _ _
      | exact spec_DanceOk.mono _ _
      | exact spec_ReadFraction.mono _ _
      | exact LeO.none _
      | refine LeO.ite ?_ ?_
      | refine LeO.bind ?_ (fun _ => ?_)
set_option maxHeartbeats 8000000 in
set_option maxRecDepth 100000 in
theorem spec_DeedText.calls (k : Nat) (a0_0 : Int) (a0_1 : ByteArray) (r : ByteArray) (w : World) (h : spec_DeedText.f k a0_0 a0_1 = some r) :
    Calls Tryd.prog 11 #[.agg #[.int .i64 a0_0, .string a0_1]] w fun e w' => e = .returned (.string r) ∧ Below w.heap.size w w' := by
  have hu26 := Tryd.underlying26
  have hu50 := Tryd.underlying50
  have HB := Aside0.mk (Below.refl w.heap.size w)
  have H : ((spec_ReadFraction.f k a0_1).bind fun bt177 => (if a0_0 = 0 then ((spec_DanceOk.f k a0_1).bind fun t181 => (spec_DeedText.j0 k bt177.2.2 t181 a0_0 a0_1)) else (spec_DeedText.j0 k bt177.2.2 false a0_0 a0_1))) = some r := h
  clear h
  replace H := Option.bind_eq_some_iff.mp H
  obtain ⟨⟨t177, t178, t179⟩, A20, H⟩ := H
  replace H : (if a0_0 = 0 then ((spec_DanceOk.f k a0_1).bind fun t181 => (spec_DeedText.j0 k t179 t181 a0_0 a0_1)) else (spec_DeedText.j0 k t179 false a0_0 a0_1)) = some r := H
  have A2 := Aside0.mk A20
  clear A20
  have HC3 := Aside0.mk H
  clear H
  go_enter Tryd.func11, Tryd.ntmps11
  go_upto_region 2 with (first | ((with_reducible refine gate_dst (N := 1) rfl ?_); refine box_event ?hg (N := 1) ?hd (cs := #[.int .i64 a0_0, .string a0_1]) (t := 26) ?hr ?_; (case hd => rfl); (case hg => rfl); (case hr => first | (go_simp; done) | (go_simp; rfl)); intro gb176 hg w4 hbox hb; have BK176 := Aside0.mk (hbox); have GW176 := Aside0.mk ((sqG hg (sqB HB))); have GE176 := Aside0.mk ((sqG hg (sqB HB))); replace HB := sqS (sqB HB) hb; clear hb hbox hg; have hcz5_0 := sqZ BK176 0 (.int .i64 a0_0); have hcz5_1 := sqZ BK176 1 (.string a0_1); have hfz5_0 := blk_frozen BK176.out 0; have hfz5_1 := blk_frozen BK176.out 1) | ((with_reducible refine gate_callee (f := 31) rfl ?_); refine goesL_ (some 8) rfl rfl Tryd.func31 (by kernel_rfl) rfl #[.string a0_1] rfl sqA ?_; (with_reducible refine (spec_ReadFraction.calls k a0_1 t177 t178 t179 _ A2.out).mono ?_); rintro e w6 ⟨rfl, hb⟩; refine ⟨_, rfl, ?_⟩; replace BK176 := sqT BK176 hb; replace HB := sqS (sqB1 HB GE176) hb; (try clear hb)) | ((with_reducible refine gate_dst (N := 3) rfl ?_); refine box_event ?hg (N := 3) ?hd (cs := #[.int .i64 0, .int .i64 0]) (t := 50) ?hr ?_; (case hd => rfl); (case hg => rfl); (case hr => first | (go_simp; done) | (go_simp; rfl)); intro gb180 hg w7 hbox hb; have BK180 := Aside0.mk (hbox); have GW180 := Aside0.mk ((sqG hg (sqB1 HB GE176))); have GE180 := Aside0.mk ((sqG hg (sqB1 HB GE176))); replace HB := sqS (sqB1 HB GE176) hb; have NB176_180 := Aside0.mk ((by rw [hg]; exact Nat.ne_of_lt (blk_lt (sqK BK176)) : gb176 ≠ gb180)); have NB180_176 := Aside0.mk ((by rw [hg]; exact Nat.ne_of_gt (blk_lt (sqK BK176)) : gb180 ≠ gb176)); replace BK176 := sqT BK176 hb; clear hb hbox hg; have hnb8 := NB180_176.out; have hnc8 := NB176_180.out; have hcz9_0 := sqZ BK180 0 (.int .i64 0); have hcz9_1 := sqZ BK180 1 (.int .i64 0); have hfz9_0 := blk_frozen BK180.out 0; have hfz9_1 := blk_frozen BK180.out 1))
  (try simp only [Act.put, List.setIfInBounds_toArray, List.set_cons_zero, List.set_cons_succ])
  go_cut [11] (fun v11 wc => ∃ (kq : Nat) (x11_2 : Bool), v11 = .bool x11_2 ∧ Aside0 (spec_DeedText.j0 kq t179 x11_2 a0_0 a0_1 = some r) ∧ Aside0 (kq ≤ k) ∧ Aside0 (wc.heap[gb176]? = some (.cells #[.int .i64 a0_0, .string a0_1] 26 (0, 0))) ∧ Aside0 (wc.heap[gb180]? = some (.cells #[.int .i64 t177, .int .i64 t178] 50 (0, 0))) ∧ Aside0 (Below w.heap.size w wc))
  case first =>
    have H := HC3.out
    clear HC3
    by_cases c10 : a0_0 = 0
    · rw [if_pos c10] at H
      have c10b0 : (a0_0 == 0) = true := beq_iff_eq.mpr c10
      have c10b1 : (a0_0 != 0) = false := bne_eq_false_iff_eq.mpr c10
      clear c10
      (first | rw [c10b0] | (simp only [i64_w, i32_w]; rw [c10b0]) | skip)
      replace H := Option.bind_eq_some_iff.mp H
      obtain ⟨t181, A110, H⟩ := H
      replace H : (spec_DeedText.j0 k t179 t181 a0_0 a0_1) = some r := H
      have A11 := Aside0.mk A110
      clear A110
      have H' := Aside0.mk H
      clear H
      have hnb12 := NB176_180.out
      have hnc12 := NB180_176.out
      have hcz13_0 := sqZ BK176 0 (.int .i64 a0_0)
      have hcz13_1 := sqZ BK176 1 (.string a0_1)
      have hfz13_0 := blk_frozen BK176.out 0
      have hfz13_1 := blk_frozen BK176.out 1
      go_wp2_with (first | (go_at_call 32; (with_reducible refine (spec_DanceOk.calls k a0_1 t181 _ A11.out).mono ?_); rintro e w' ⟨rfl, ⟨nd, rfl⟩⟩))
      go_meet
      case rel => exact ⟨_, (t181), (by first | rfl | (simp; done) | (simp [*]; done)), H', ⟨by first | omega | exact Nat.le_refl _⟩, ⟨by (with_reducible repeat (first | refine blk_drewN ?_ _ | refine blk_drew ?_ | refine blk_alloc ?_ _)); refine blk_far ?_ NB176_180.out _; (with_reducible repeat (first | refine blk_drewN ?_ _ | refine blk_drew ?_ | refine blk_alloc ?_ _)); refine blk_far ?_ NB176_180.out _; (with_reducible repeat (first | refine blk_drewN ?_ _ | refine blk_drew ?_ | refine blk_alloc ?_ _)); exact BK176.out⟩, ⟨by (with_reducible repeat (first | refine blk_drewN ?_ _ | refine blk_drew ?_ | refine blk_alloc ?_ _)); refine blk_put (cs := #[.int .i64 t177, .int .i64 0]) ?_ 1 _ rfl; (with_reducible repeat (first | refine blk_drewN ?_ _ | refine blk_drew ?_ | refine blk_alloc ?_ _)); refine blk_put (cs := #[.int .i64 0, .int .i64 0]) ?_ 0 _ rfl; (with_reducible repeat (first | refine blk_drewN ?_ _ | refine blk_drew ?_ | refine blk_alloc ?_ _)); exact BK180.out⟩, ⟨sqB2 HB GE176 GE180⟩⟩
    · rw [if_neg c10] at H
      have c10b0 : (a0_0 == 0) = false := beq_eq_false_iff_ne.mpr c10
      have c10b1 : (a0_0 != 0) = true := bne_iff_ne.mpr c10
      (first | rw [c10b0] | (simp only [i64_w, i32_w]; rw [c10b0]) | skip)
      have H' := Aside0.mk H
      clear H
      have hnb14 := NB176_180.out
      have hnc14 := NB180_176.out
      have hcz15_0 := sqZ BK176 0 (.int .i64 a0_0)
      have hcz15_1 := sqZ BK176 1 (.string a0_1)
      have hfz15_0 := blk_frozen BK176.out 0
      have hfz15_1 := blk_frozen BK176.out 1
      go_wp2
      go_meet
      case rel => exact ⟨_, (false), (by first | rfl | (simp; done) | (simp [*]; done)), H', ⟨by first | omega | exact Nat.le_refl _⟩, ⟨by (with_reducible repeat (first | refine blk_drewN ?_ _ | refine blk_drew ?_ | refine blk_alloc ?_ _)); refine blk_far ?_ NB176_180.out _; (with_reducible repeat (first | refine blk_drewN ?_ _ | refine blk_drew ?_ | refine blk_alloc ?_ _)); refine blk_far ?_ NB176_180.out _; (with_reducible repeat (first | refine blk_drewN ?_ _ | refine blk_drew ?_ | refine blk_alloc ?_ _)); exact BK176.out⟩, ⟨by (with_reducible repeat (first | refine blk_drewN ?_ _ | refine blk_drew ?_ | refine blk_alloc ?_ _)); refine blk_put (cs := #[.int .i64 t177, .int .i64 0]) ?_ 1 _ rfl; (with_reducible repeat (first | refine blk_drewN ?_ _ | refine blk_drew ?_ | refine blk_alloc ?_ _)); refine blk_put (cs := #[.int .i64 0, .int .i64 0]) ?_ 0 _ rfl; (with_reducible repeat (first | refine blk_drewN ?_ _ | refine blk_drew ?_ | refine blk_alloc ?_ _)); exact BK180.out⟩, ⟨sqB2 HB GE176 GE180⟩⟩
  case rest =>
    clear HC3
    try clear c1
    try clear p2
    try clear c3
    try clear c8
    try clear c10
    try clear c10b0
    try clear c10b1
    try clear c11
    try clear c12
    try clear c14
    try clear hcz13_0
    try clear hcz13_1
    try clear hcz15_0
    try clear hcz15_1
    try clear hcz5_0
    try clear hcz5_1
    try clear hcz9_0
    try clear hcz9_1
    try clear hfz13_0
    try clear hfz13_1
    try clear hfz15_0
    try clear hfz15_1
    try clear hfz5_0
    try clear hfz5_1
    try clear hfz9_0
    try clear hfz9_1
    obtain ⟨kq, x11_2, rfl, HA, HJ2, BK176, BK180, HB⟩ := hcut
    cases kq with
    | zero => exact absurd HA.out (by simp [spec_DeedText.j0])
    | succ kj2 =>
      have H := HA.out
      clear HA
      simp only [spec_DeedText.j0] at H
      by_cases c16 : x11_2 = true
      · subst c16
        have H1 : (if 6 + a0_1.size ≤ 9223372036854775807 then (some ((⟨#[100, 97, 110, 99, 101, 32]⟩ : ByteArray) ++ a0_1)) else (none)) = some r := by rw [if_pos rfl] at H; exact H
        clear H
        have H := H1
        clear H1
        by_cases c17 : 6 + a0_1.size ≤ 9223372036854775807
        · rw [if_pos c17] at H
          have c17b0 := eq_true c17
          have c17b1 : decide (6 + a0_1.size ≤ 9223372036854775807) = true := decide_eq_true c17
          try have c17b2 : (9223372036854775807 < 6 + a0_1.size) = False := eq_false (Nat.not_lt.2 c17)
          obtain rfl := Option.some.inj H
          have hnb18 := NB176_180.out
          have hnc18 := NB180_176.out
          have hcz19_0 := sqZ BK176 0 (.int .i64 a0_0)
          have hcz19_1 := sqZ BK176 1 (.string a0_1)
          have hfz19_0 := blk_frozen BK176.out 0
          have hfz19_1 := blk_frozen BK176.out 1
          go_wp2
          go_ret
          exact ⟨by first | rfl | (simp [errP_none, errP_some] <;> rfl) | (simp [*, errP_none, errP_some] <;> rfl), sqB2 HB GE176 GE180⟩
        · rw [if_neg c17] at H
          exact absurd H (by simp)
      · replace c16 := Bool.eq_false_iff.mpr c16
        subst c16
        have H1 : (if a0_0 = 1 then (spec_DeedText.j1 kj2 t179 a0_0 a0_1) else (spec_DeedText.j1 kj2 false a0_0 a0_1)) = some r := by rw [if_neg (show ¬ (false = true) by decide)] at H; exact H
        clear H
        have H := H1
        clear H1
        have HC20 := Aside0.mk H
        clear H
        go_upto_region 4 with (fail)
        go_cut [23] (fun v23 wc => ∃ (kq : Nat) (x23_19 : Bool), v23 = .bool x23_19 ∧ Aside0 (spec_DeedText.j1 kq x23_19 a0_0 a0_1 = some r) ∧ Aside0 (kq ≤ kj2) ∧ Aside0 (wc.heap[gb176]? = some (.cells #[.int .i64 a0_0, .string a0_1] 26 (0, 0))) ∧ Aside0 (wc.heap[gb180]? = some (.cells #[.int .i64 t177, .int .i64 t178] 50 (0, 0))) ∧ Aside0 (Below w.heap.size w wc))
        case first =>
          have H := HC20.out
          clear HC20
          by_cases c21 : a0_0 = 1
          · rw [if_pos c21] at H
            have c21b0 : (a0_0 == 1) = true := beq_iff_eq.mpr c21
            have c21b1 : (a0_0 != 1) = false := bne_eq_false_iff_eq.mpr c21
            clear c21
            (first | rw [c21b0] | (simp only [i64_w, i32_w]; rw [c21b0]) | skip)
            have H' := Aside0.mk H
            clear H
            have hnb22 := NB176_180.out
            have hnc22 := NB180_176.out
            have hcz23_0 := sqZ BK176 0 (.int .i64 a0_0)
            have hcz23_1 := sqZ BK176 1 (.string a0_1)
            have hfz23_0 := blk_frozen BK176.out 0
            have hfz23_1 := blk_frozen BK176.out 1
            go_wp2
            go_meet
            case rel => exact ⟨_, (t179), (by first | rfl | (simp; done) | (simp [*]; done)), H', ⟨by have := HJ2.out; first | omega | exact Nat.le_refl _⟩, ⟨sqK BK176⟩, ⟨sqK BK180⟩, ⟨sqB2 HB GE176 GE180⟩⟩
          · rw [if_neg c21] at H
            have c21b0 : (a0_0 == 1) = false := beq_eq_false_iff_ne.mpr c21
            have c21b1 : (a0_0 != 1) = true := bne_iff_ne.mpr c21
            (first | rw [c21b0] | (simp only [i64_w, i32_w]; rw [c21b0]) | skip)
            have H' := Aside0.mk H
            clear H
            have hnb24 := NB176_180.out
            have hnc24 := NB180_176.out
            have hcz25_0 := sqZ BK176 0 (.int .i64 a0_0)
            have hcz25_1 := sqZ BK176 1 (.string a0_1)
            have hfz25_0 := blk_frozen BK176.out 0
            have hfz25_1 := blk_frozen BK176.out 1
            go_wp2
            go_meet
            case rel => exact ⟨_, (false), (by first | rfl | (simp; done) | (simp [*]; done)), H', ⟨by have := HJ2.out; first | omega | exact Nat.le_refl _⟩, ⟨sqK BK176⟩, ⟨sqK BK180⟩, ⟨sqB2 HB GE176 GE180⟩⟩
        case rest =>
          clear HC20
          try clear c1
          try clear c2
          try clear p2
          try clear c3
          try clear c8
          try clear c10
          try clear c10b0
          try clear c10b1
          try clear c11
          try clear c12
          try clear c14
          try clear c16
          try clear c17
          try clear c17b0
          try clear c17b1
          try clear c17b2
          try clear c18
          try clear c21
          try clear c21b0
          try clear c21b1
          try clear c22
          try clear c24
          try clear hcz13_0
          try clear hcz13_1
          try clear hcz15_0
          try clear hcz15_1
          try clear hcz19_0
          try clear hcz19_1
          try clear hcz23_0
          try clear hcz23_1
          try clear hcz25_0
          try clear hcz25_1
          try clear hcz5_0
          try clear hcz5_1
          try clear hcz9_0
          try clear hcz9_1
          try clear hfz13_0
          try clear hfz13_1
          try clear hfz15_0
          try clear hfz15_1
          try clear hfz19_0
          try clear hfz19_1
          try clear hfz23_0
          try clear hfz23_1
          try clear hfz25_0
          try clear hfz25_1
          try clear hfz5_0
          try clear hfz5_1
          try clear hfz9_0
          try clear hfz9_1
          try clear p2
          obtain ⟨kq, x23_19, rfl, HA, HJ19, BK176, BK180, HB⟩ := hcut
          cases kq with
          | zero => exact absurd HA.out (by simp [spec_DeedText.j1])
          | succ kj19 =>
            have H := HA.out
            clear HA
            simp only [spec_DeedText.j1] at H
            by_cases c26 : x23_19 = true
            · subst c26
              have H1 : (if 5 + a0_1.size ≤ 9223372036854775807 then (some ((⟨#[116, 97, 107, 101, 32]⟩ : ByteArray) ++ a0_1)) else (none)) = some r := by rw [if_pos rfl] at H; exact H
              clear H
              have H := H1
              clear H1
              by_cases c27 : 5 + a0_1.size ≤ 9223372036854775807
              · rw [if_pos c27] at H
                have c27b0 := eq_true c27
                have c27b1 : decide (5 + a0_1.size ≤ 9223372036854775807) = true := decide_eq_true c27
                try have c27b2 : (9223372036854775807 < 5 + a0_1.size) = False := eq_false (Nat.not_lt.2 c27)
                obtain rfl := Option.some.inj H
                have hnb28 := NB176_180.out
                have hnc28 := NB180_176.out
                have hcz29_0 := sqZ BK176 0 (.int .i64 a0_0)
                have hcz29_1 := sqZ BK176 1 (.string a0_1)
                have hfz29_0 := blk_frozen BK176.out 0
                have hfz29_1 := blk_frozen BK176.out 1
                go_wp2
                go_ret
                exact ⟨by first | rfl | (simp [errP_none, errP_some] <;> rfl) | (simp [*, errP_none, errP_some] <;> rfl), sqB2 HB GE176 GE180⟩
              · rw [if_neg c27] at H
                exact absurd H (by simp)
            · replace c26 := Bool.eq_false_iff.mpr c26
              subst c26
              have H1 : (if (a0_0 == 2 && (a0_1.toList == ([] : List UInt8))) = true then (some (⟨#[109, 105, 114, 114, 111, 114]⟩ : ByteArray)) else (if (a0_0 == 3 && (a0_1.toList == ([] : List UInt8))) = true then (some (⟨#[117, 110, 116, 105, 101]⟩ : ByteArray)) else (if (a0_0 == 4 && (a0_1.toList == ([] : List UInt8))) = true then (some (⟨#[98, 97, 99, 107]⟩ : ByteArray)) else (some (⟨#[]⟩ : ByteArray))))) = some r := by rw [if_neg (show ¬ (false = true) by decide)] at H; exact H
              clear H
              have H := H1
              clear H1
              by_cases c30 : (a0_0 == 2 && (a0_1.toList == ([] : List UInt8))) = true
              · rw [if_pos c30] at H
                have c30b0 : (a0_0 == 2 && (a0_1.toList == ([] : List UInt8))) = true := c30
                try have c30b8 : (a0_0 == 2 && a0_1.toList.isEmpty) = true := by (have h_ := c30b0; (repeat rw [show ∀ z : List UInt8, (z == ([] : List UInt8)) = z.isEmpty from fun z => by cases z <;> rfl] at h_); exact h_)
                (try (have c30b1 : decide (a0_0 = 2 && (a0_1.toList == ([] : List UInt8))) = true := by simpa using c30))
                (try (have c30b2 : (a0_0 == 2 && (a0_1.toList == ([] : List UInt8))) = true := by simpa using c30))
                clear c30
                obtain rfl := Option.some.inj H
                have hnb31 := NB176_180.out
                have hnc31 := NB180_176.out
                have hcz32_0 := sqZ BK176 0 (.int .i64 a0_0)
                have hcz32_1 := sqZ BK176 1 (.string a0_1)
                have hfz32_0 := blk_frozen BK176.out 0
                have hfz32_1 := blk_frozen BK176.out 1
                go_wp2
                go_ret
                exact ⟨by first | rfl | (simp [errP_none, errP_some] <;> rfl) | (simp [*, errP_none, errP_some] <;> rfl), sqB2 HB GE176 GE180⟩
              · rw [if_neg c30] at H
                have c30b0 : (a0_0 == 2 && (a0_1.toList == ([] : List UInt8))) = false := by simpa using c30
                try have c30b8 : (a0_0 == 2 && a0_1.toList.isEmpty) = false := by (have h_ := c30b0; (repeat rw [show ∀ z : List UInt8, (z == ([] : List UInt8)) = z.isEmpty from fun z => by cases z <;> rfl] at h_); exact h_)
                (try (have c30b1 : decide (a0_0 = 2 && (a0_1.toList == ([] : List UInt8))) = false := by simpa using c30))
                (try (have c30b2 : (a0_0 == 2 && (a0_1.toList == ([] : List UInt8))) = false := by simpa using c30))
                (try (have c30b3 : ¬ (a0_0 = 2 && (a0_1.toList == ([] : List UInt8))) := by simpa using c30))
                clear c30
                by_cases c33 : (a0_0 == 3 && (a0_1.toList == ([] : List UInt8))) = true
                · rw [if_pos c33] at H
                  have c33b0 : (a0_0 == 3 && (a0_1.toList == ([] : List UInt8))) = true := c33
                  try have c33b8 : (a0_0 == 3 && a0_1.toList.isEmpty) = true := by (have h_ := c33b0; (repeat rw [show ∀ z : List UInt8, (z == ([] : List UInt8)) = z.isEmpty from fun z => by cases z <;> rfl] at h_); exact h_)
                  (try (have c33b1 : decide (a0_0 = 3 && (a0_1.toList == ([] : List UInt8))) = true := by simpa using c33))
                  (try (have c33b2 : (a0_0 == 3 && (a0_1.toList == ([] : List UInt8))) = true := by simpa using c33))
                  clear c33
                  obtain rfl := Option.some.inj H
                  have hnb34 := NB176_180.out
                  have hnc34 := NB180_176.out
                  have hcz35_0 := sqZ BK176 0 (.int .i64 a0_0)
                  have hcz35_1 := sqZ BK176 1 (.string a0_1)
                  have hfz35_0 := blk_frozen BK176.out 0
                  have hfz35_1 := blk_frozen BK176.out 1
                  go_wp2
                  go_ret
                  exact ⟨by first | rfl | (simp [errP_none, errP_some] <;> rfl) | (simp [*, errP_none, errP_some] <;> rfl), sqB2 HB GE176 GE180⟩
                · rw [if_neg c33] at H
                  have c33b0 : (a0_0 == 3 && (a0_1.toList == ([] : List UInt8))) = false := by simpa using c33
                  try have c33b8 : (a0_0 == 3 && a0_1.toList.isEmpty) = false := by (have h_ := c33b0; (repeat rw [show ∀ z : List UInt8, (z == ([] : List UInt8)) = z.isEmpty from fun z => by cases z <;> rfl] at h_); exact h_)
                  (try (have c33b1 : decide (a0_0 = 3 && (a0_1.toList == ([] : List UInt8))) = false := by simpa using c33))
                  (try (have c33b2 : (a0_0 == 3 && (a0_1.toList == ([] : List UInt8))) = false := by simpa using c33))
                  (try (have c33b3 : ¬ (a0_0 = 3 && (a0_1.toList == ([] : List UInt8))) := by simpa using c33))
                  clear c33
                  by_cases c36 : (a0_0 == 4 && (a0_1.toList == ([] : List UInt8))) = true
                  · rw [if_pos c36] at H
                    have c36b0 : (a0_0 == 4 && (a0_1.toList == ([] : List UInt8))) = true := c36
                    try have c36b8 : (a0_0 == 4 && a0_1.toList.isEmpty) = true := by (have h_ := c36b0; (repeat rw [show ∀ z : List UInt8, (z == ([] : List UInt8)) = z.isEmpty from fun z => by cases z <;> rfl] at h_); exact h_)
                    (try (have c36b1 : decide (a0_0 = 4 && (a0_1.toList == ([] : List UInt8))) = true := by simpa using c36))
                    (try (have c36b2 : (a0_0 == 4 && (a0_1.toList == ([] : List UInt8))) = true := by simpa using c36))
                    clear c36
                    obtain rfl := Option.some.inj H
                    have hnb37 := NB176_180.out
                    have hnc37 := NB180_176.out
                    have hcz38_0 := sqZ BK176 0 (.int .i64 a0_0)
                    have hcz38_1 := sqZ BK176 1 (.string a0_1)
                    have hfz38_0 := blk_frozen BK176.out 0
                    have hfz38_1 := blk_frozen BK176.out 1
                    go_wp2
                    go_ret
                    exact ⟨by first | rfl | (simp [errP_none, errP_some] <;> rfl) | (simp [*, errP_none, errP_some] <;> rfl), sqB2 HB GE176 GE180⟩
                  · rw [if_neg c36] at H
                    have c36b0 : (a0_0 == 4 && (a0_1.toList == ([] : List UInt8))) = false := by simpa using c36
                    try have c36b8 : (a0_0 == 4 && a0_1.toList.isEmpty) = false := by (have h_ := c36b0; (repeat rw [show ∀ z : List UInt8, (z == ([] : List UInt8)) = z.isEmpty from fun z => by cases z <;> rfl] at h_); exact h_)
                    (try (have c36b1 : decide (a0_0 = 4 && (a0_1.toList == ([] : List UInt8))) = false := by simpa using c36))
                    (try (have c36b2 : (a0_0 == 4 && (a0_1.toList == ([] : List UInt8))) = false := by simpa using c36))
                    (try (have c36b3 : ¬ (a0_0 = 4 && (a0_1.toList == ([] : List UInt8))) := by simpa using c36))
                    clear c36
                    obtain rfl := Option.some.inj H
                    have hnb39 := NB176_180.out
                    have hnc39 := NB180_176.out
                    have hcz40_0 := sqZ BK176 0 (.int .i64 a0_0)
                    have hcz40_1 := sqZ BK176 1 (.string a0_1)
                    have hfz40_0 := blk_frozen BK176.out 0
                    have hfz40_1 := blk_frozen BK176.out 1
                    go_wp2
                    go_ret
                    exact ⟨by first | rfl | (simp [errP_none, errP_some] <;> rfl) | (simp [*, errP_none, errP_some] <;> rfl), sqB2 HB GE176 GE180⟩

end Go.Proofs.YtnojjblkmepblaaDoor.PFnReadDeed
